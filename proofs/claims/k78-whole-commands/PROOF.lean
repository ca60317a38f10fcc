import PyProof.Rows.All
import Wide.All
import OpenK.AllK
import Wide.FinOn
import HandS.ForMost
import HandS.Walk
import KE.GoesMore
import KE.GoesEnum
import HandS.ForExc
import HandS.IsInst
import HandS.DictComp
import HandS.TupAny
import HandS.Conv
import HandS.Strs
import HandS.ExcInit
import HandS.ExcField
import PySem.Challenge.RW_kepttogether_k78_whole_commands
set_option Elab.async false
set_option linter.all false
set_option maxRecDepth 100000
namespace Kt
open PySem PySem.Spec PyProof.Rows L2
/-! ### sorted of a tuple of texts -/
section
variable {prog : Program} {w : World} {A : Around} {E : Value → Shared → Prop} {s : Shared}
theorem collect_tuple {l : Addr} {vs : List Value} {Q : List Value → Shared → Prop} (hl : IsTup s.heap l vs.toArray)
    (h : Q vs { s with heap := (s.heap.push (seqObj "list" #[] 0)).update s.heap.objs.size (Obj.mapSeq (· ++ vs.toArray)) }) (hsz : vs.length ≤ sizeLine) :
    wpAny (model prog w) A (collect (.ref l)) Q E s := by
  obtain ⟨o, ho, hc, n, hd⟩ := id hl
  unfold collect
  refine wpAny_bind (wpAny_runValue (codeAny_builtin entry_proto_collect' ?_))
  show wpAny _ _ (do again (.builtin "list.__iadd__" ⟨[← newList [], .ref l], []⟩)) _ _ s
  refine wpAny_bind (wpAny_newList (wpAny_pure ⟨Code.quiet_builtin _ (by decide +kernel), codeAny_builtin entry_list_iadd' ?_⟩))
  show wpAny _ _ (Builtin.List.listExtendWith (.ref s.heap.objs.size) (.ref l) (.ref s.heap.objs.size)) _ _ { s with heap := s.heap.push (seqObj "list" #[] 0) }
  unfold Builtin.List.listExtendWith
  have ho' : (s.heap.push (seqObj "list" #[] 0)).get? l = some o := Heap.get?_push_of_some _ ho
  refine wpAny_bind (wpAny_typeOf (T := "tuple") ⟨o, ho', hc⟩ ?_)
  have ht : (Value.type "tuple" == Value.type "tuple") = true := by rfl
  rw [if_pos (by rw [ht]; simp)]
  refine wpAny_bind (listItems_at ho' hd ?_)
  refine wpAny_bind (listItems_at (xs := #[]) (n := 0) (Heap.get?_push_size _ rfl) rfl ?_)
  rw [if_neg (by simp)]
  refine wpAny_bind (listUpdate_at (xs := #[]) (n := 0) (Heap.get?_push_size _ rfl) rfl ?_ (Nat.zero_le _) (by show (#[] ++ vs.toArray).size ≤ sizeLine + 1; simp only [Array.size_append, List.size_toArray, List.length_nil]; omega))
  refine wpAny_pure ?_
  show wpAny (model prog w) A (do
      let o ← load s.heap.objs.size
      match o.data with
      | .seq xs _ => pure xs.toList
      | _ => unsupported "internal:collect") Q E { s with heap := (s.heap.push (seqObj "list" #[] 0)).update s.heap.objs.size (Obj.mapSeq (· ++ vs.toArray)) }
  refine wpAny_bind (wpAny_load (get?_update_seq (Heap.get?_push_size _ rfl) _) ?_)
  show wpAny _ _ (pure ((#[] : Array Value) ++ vs.toArray).toList) Q E _
  rw [show ((#[] : Array Value) ++ vs.toArray).toList = vs by simp]
  exact wpAny_pure h
theorem sortedKT {κ : KeyKind} (hO : κ.OneLt) {l : Addr} {vs : List Value} {Q : Value → Shared → Prop} (hl : IsTup s.heap l vs.toArray) (h0 : KeysOf κ (pairsOf vs)) (hkk : ∀ v₁ v₂ rest, vs = v₁ :: v₂ :: rest → keyKind' (v₁ :: v₂ :: rest).toArray = pure oneType') (h64 : vs.length < 64)
    (h : ∀ st' : SortSt, (arrOf st').Perm (pairsOf vs) → SortedToK κ (arrOf st') (pairsOf vs).size → Q (.ref (s.heap.objs.size + 1)) { s with heap := sortedAll s.heap vs ((arrOf st').map (·.2)) }) :
    wpAny (model prog w) A (call (.builtin "sorted") [.ref l]) Q E s := by
  refine Calls.call_function_entry kind_sorted plain_sorted entry_sorted (args_sorted1 _) ?_
  unfold Builtin.«sorted»
  refine wpAny_bind (m := checkCount "sorted" 1 1 _) (wpAny_pure ?_)
  refine wpAny_bind (collect_tuple hl ?_ (by rw [sizeLine_eq]; omega))
  refine wpAny_bind (wpAny_newList ?_)
  have hsz : ((s.heap.push (seqObj "list" #[] 0)).update s.heap.objs.size (Obj.mapSeq (· ++ vs.toArray))).objs.size = s.heap.objs.size + 1 := by
    rw [Heap.size_update, size_push']
  have hoL : (((s.heap.push (seqObj "list" #[] 0)).update s.heap.objs.size (Obj.mapSeq (· ++ vs.toArray))).push (seqObj "list" vs.toArray 0)).get? (s.heap.objs.size + 1) = some (seqObj "list" vs.toArray 0) := by
    rw [← hsz]; exact Heap.get?_push_size _ rfl
  show wpAny _ _ _ _ _ { s with heap := ((s.heap.push (seqObj "list" #[] 0)).update s.heap.objs.size (Obj.mapSeq (· ++ vs.toArray))).push (seqObj "list" vs.toArray 0) }
  rw [hsz]
  refine wpAny_bind (wpAny_holding (wpAny_call_entry slot_list_sort ⟨_, hoL, rfl⟩ entry_list_sort (list_sort_treeK hO hoL h0 hkk h64 fun st' a1 a2 => ⟨_, rfl, ?_⟩) (args_list_sort _)))
  exact wpAny_pure ⟨_, rfl, h st' a1 a2⟩
theorem sorted_strsT {l : Addr} {vs : List Value} {ss : List Str} {Q : Value → Shared → Prop} (hl : IsTup s.heap l vs.toArray) (hS : StrsAre vs ss) (h64 : vs.length < 64)
    (h : ∀ (out : Array Value) (ss' : List Str), StrsAre out.toList ss' → ss'.Perm ss → sortedS ss' = true → Q (.ref (s.heap.objs.size + 1)) { s with heap := sortedAll s.heap vs out }) :
    wpAny (model prog w) A (call (.builtin "sorted") [.ref l]) Q E s := by
  refine sortedKT strKind_oneLt hl hS.keysOf (fun v₁ v₂ rest e => keyKind_strs (by rw [← e]; exact hS)) h64 fun st' hp hs => ?_
  obtain ⟨ss', h1, h2, h3⟩ := sorted_out_str hS hp hs
  exact h _ ss' h1 h2 h3
end
def rSortedST (K : PySem.W.Frag) : List V → Hp → VK → Prop := fun vs H Q => ∃ (a : Addr) (xs : List Str), vs = [V.ref a] ∧ SqT K H a (xs.map V.str) ∧ xs.length < 64 ∧
  ∀ (ys : List Str) (p : Addr), ys.Perm xs → H p = none → Q (.ref p) (upd H p (.lst (ys.map V.str)))
theorem cr_sortedST {X : Cx} : CallR X (.builtin "sorted") (rSortedST X.K) := by
  intro pins s σ H vs us Q I r h
  obtain ⟨a, xs, rfl, hs, h64, q⟩ := h
  obtain ⟨its, rv, hl, _⟩ := I.tuple hs
  rw [Vals.ref1 r]
  have hlen0 := rv.length
  rw [List.length_map] at hlen0
  refine sorted_strsT hl rv.strs (by rw [← hlen0]; exact h64) fun out ys h1 h2 h3 => ?_
  obtain ⟨ep, he'⟩ := PyProof.Rows.sortedAll_at s.heap its out
  have hlen : (ys.map V.str).length ≤ sizeLine := by rw [List.length_map, h2.length_eq]; exact small64 h64
  exact ⟨.ref _, upd H (s.heap.objs.size + 1) (.lst (ys.map V.str)), I.laid (t' := s.toks) (fun _ _ => PyProof.Rows.sortedAll_old) (Nat.le_succ _) ⟨hlen, out.toList, ep, vals_of_strs h1, he'⟩, rfl, q ys _ h2 (I.hok.fresh (Nat.le_succ _))⟩
end Kt
namespace Kt
open PySem PySem.Spec PyProof.Rows L2
/-! ### enumerate(tuple) -/
section
variable {prog : Program} {w : World} {A : Around} {E : Value → Shared → Prop} {s : Shared}
set_option maxHeartbeats 1000000 in
theorem meets_enum_newB1 {v : Value} {o : Obj} {H : Heap → Prop} (B : Begins v o H) :
    Meets (Builtin.«enumerate.__new__» ⟨[.type "enumerate", v], []⟩) (fun _ R s => H s.heap ∧
      R (.ok (.ret (.ref (s.heap.push o).objs.size))) { s with heap := (s.heap.push o).push { cls := .type "enumerate", data := .fields #[.none, .bool false, .ref s.heap.objs.size, rawInt 0, .none, .none] } }) :=
  .of_wp fun prog w A R s h => by
    obtain ⟨hp, g, d, tk, os⟩ := s; obtain ⟨h1, h⟩ := h
    have hsub := sub_enumerate
    have q1 : ∀ {A' : Around} {E : Value → Shared → Prop} {Q : Value → Shared → Prop}, Q (.ref hp.objs.size) ⟨hp.push o, g, d, tk, os⟩ → wpAny (model prog w) A' (pyIter v) Q E ⟨hp, g, d, tk, os⟩ :=
      fun q => B.iter prog w _ _ ⟨hp, g, d, tk, os⟩ _ h1 q
    wp_walk using q1
    refine wpAny_stack_any fun st => wpAny_pure ?_
    split
    · rename_i c _ _ _ _ _
      cases (c == Value.type "enumerate")
      · wp_walk using q1
        exact ⟨_, rfl, h⟩
      · wp_walk using q1
        exact ⟨_, rfl, h⟩
    · wp_walk using q1
      exact ⟨_, rfl, h⟩
theorem enum_begins1 {v : Value} {o : Obj} {H : Heap → Prop} {Q : Value → Shared → Prop} (B : Begins v o H) (h1 : H s.heap)
    (h : ∀ h', IsEnum h' (s.heap.objs.size + 1) s.heap.objs.size 0 .none → h'.get? s.heap.objs.size = some o → h'.objs.size = s.heap.objs.size + 2 →
      (∀ b o, s.heap.get? b = some o → h'.get? b = some o) → Q (.ref (s.heap.objs.size + 1)) { s with heap := h' }) :
    wpAny (model prog w) A (call (.type "enumerate") [v]) Q E s := by
  refine callType_new F.called_enumerate (by decide) (F.typeCall_enumerate_1 _) (F.newCall_enumerate_1 _) (fun obj => F.args_object_init_2 obj _) F.entry_enumerate_new
    (meets_enum_newB1 B) ⟨h1, ?_⟩
  have hz : (s.heap.push o).objs.size = s.heap.objs.size + 1 := Heap.size_push ..
  show _ ∧ _
  rw [hz]
  have he : IsEnum ((s.heap.push o).push { cls := .type "enumerate", data := .fields #[.none, .bool false, .ref s.heap.objs.size, rawInt 0, .none, .none] }) (s.heap.objs.size + 1) s.heap.objs.size 0 .none := by
    have := Heap.get?_push_size (s.heap.push o) (o := { cls := .type "enumerate", data := .fields #[.none, .bool false, .ref s.heap.objs.size, rawInt 0, .none, .none] }) rfl
    rw [hz] at this; exact this
  refine ⟨⟨_, he, rfl⟩, h _ he (Heap.get?_push_of_some _ (Heap.get?_push_size _ B.free)) (by rw [Heap.size_push, hz]) fun b o x => Heap.get?_push_of_some _ (Heap.get?_push_of_some _ x)⟩
end
/-- the tuple at a, each item in a new pair -/
def IteT (K : PySem.W.Frag) (a : Addr) : It :=
  ⟨fun i H => ∃ (xs : List V) (x : V), SqT K H a xs ∧ xs[i]? = some x, fun i H v H' => ∃ T x, v = .ref T ∧ H T = none ∧ H' = upd H T (.tup [.int (i : Nat), x]) ∧ ∀ xs, SqT K H a xs → xs[i]? = some x, fun i H => ∃ xs : List V, SqT K H a xs ∧ xs.length = i⟩
theorem turn_enumT {P : Program} {w : World} {K : PySem.W.Frag} {elts : List Expr} {kk : Nat} {tpos : Pos} (a e it : Addr) :
    Turn P w K (.Tuple elts kk tpos) (IteT K a) [e, it] e (fun i h => (∃ old, IsEnum h e it ((i : Nat) : Int) old) ∧ h.IsTupleIter it a i ∧ e ≠ it ∧ e ≠ a ∧ a ≠ it) where
  mem := by simp
  obj := fun i h st b hb => by
    obtain ⟨⟨old, he⟩, ⟨o, ho, hc, hd⟩, _⟩ := st
    have e' : b = e ∨ b = it := by simpa using hb
    rcases e' with z | z
    · rw [z]; exact ⟨_, he, fun v q => nomatch q⟩
    · rw [z]; exact ⟨o, ho, fun v q => by rw [hd] at q; cases q⟩
  keep := fun i h h' st k => let ⟨⟨old, he⟩, hi, hne, hna, hai⟩ := st; ⟨⟨old, k e (by simp) _ he⟩, hi.at fun o q => k it (by simp) o q, hne, hna, hai⟩
  item := by
    intro X hP hw hK hc i pins s σ H E I hf st hg
    subst hP hw hK
    obtain ⟨⟨old, he⟩, hit, hne, hna, hai⟩ := st
    obtain ⟨xs, x, hq, hx⟩ := hg
    obtain ⟨its, rv, p, hz⟩ := I.tuple hq
    obtain ⟨u, hu, ru⟩ := rv.get hx
    have hel : e < s.heap.objs.size := Heap.lt_size he
    have hil : it < s.heap.objs.size := by obtain ⟨_, q, _⟩ := hit; exact Heap.lt_size q
    have pt : s.heap.IsTuple a its.toArray := p
    have hlen : i < its.toArray.size := by
      have := (List.getElem?_eq_some_iff.mp hu).1
      simpa using this
    refine wpAny_pyNext_enum_itemD (Draws.tuple (prog := X.prog) (w := X.w) (A := X.A.in1) (I.ok.hd hc) it a hai its.toArray) he ⟨hit, pt⟩ hlen hne (by simp; exact ⟨hne, hna⟩) fun y h' tk hP ho hst hT hsz hk => ?_
    have ey : y = u := by
      have hu' : its.toArray[i]? = some u := by simpa using hu
      rw [hu'] at hP
      exact (Option.some.inj hP).symm
    subst ey
    refine ⟨_, rfl, wpAny_letOwnedTupleGo_enum (s := { s with heap := h', toks := tk + 1 }) ho fun h'' he' sb => ?_⟩
    have hT2 : h''.get? s.heap.objs.size = some { cls := .type "tuple", data := .seq #[.int i tk, y] } := (sb.2 _ (Nat.ne_of_gt hel)).trans hT
    have new : ObjOk X.prog X.w (upd H s.heap.objs.size (.tup [.int (i : Nat), x])) h'' s.heap.objs.size (.tup [.int (i : Nat), x]) :=
      ⟨by show 2 ≤ sizeLine; decide, [.int i tk, y], .cons ⟨_, rfl⟩ (.cons ru .nil), ⟨_, hT2, rfl, _, rfl⟩⟩
    have I1 : Inv X pins σ (upd H s.heap.objs.size (.tup [.int (i : Nat), x])) { s with heap := h'', toks := tk + 1 } :=
      I.turnedNew (ch := [e, it]) (fun b ob hb q => (sb.2 b (fun z => hb (by simp [z]))).trans (hk b ob (fun z => hb (by simp [z])) (fun z => hb (by simp [z])) q)) hf (Nat.le_refl _) new
    refine ⟨.ref s.heap.objs.size, _, I1, rfl, ⟨_, x, rfl, I.hok.fresh (Nat.le_refl _), rfl, fun ys hy => by rw [I.tuple_inj hy hq]; exact hx⟩, ⟨⟨y, ?_⟩, hst.1.at fun o q => (sb.2 it (Ne.symm hne)).trans q, hne, hna, hai⟩, fun b hb => ?_⟩
    · have e1 : ((i + 1 : Nat) : Int) = (i : Int) + 1 := by omega
      rw [e1]; exact he'
    · have hb' : b < s.heap.objs.size := by
        have e' : b = e ∨ b = it := by simpa using hb
        rcases e' with z | z
        · rw [z]; exact hel
        · rw [z]; exact hil
      rw [upd_ne (Nat.ne_of_lt hb')]
      exact (hf b hb).1
  done := by
    intro X hP hw hK hc i pins s σ H E I hf st hg
    subst hP hw hK
    obtain ⟨⟨old, he⟩, hit, hne, hna, hai⟩ := st
    obtain ⟨xs, hq, hx⟩ := hg
    obtain ⟨its, rv, p, hz⟩ := I.tuple hq
    obtain ⟨f0, f1, f2, f3, f4, f5⟩ := hf it (by simp)
    have hl := rv.length
    have pt : s.heap.IsTuple a its.toArray := p
    have hi : i = its.toArray.size := by simp; omega
    subst hi
    exact wpAny_pyNext_enum_endD (Draws.tuple (prog := X.prog) (w := X.w) (A := X.A.in1) (I.ok.hd hc) it a hai its.toArray) he ⟨hit, pt⟩ fun h' eb => ⟨rfl, I.turned (t' := s.toks) (fun b o hb q => eb b o hb q) f0 f1 f3 f4 f5⟩
  self := fun A i s Q E st h => let ⟨⟨_, he⟩, _⟩ := st; wpAny_pyIter_enum he h
def iEnumT (K : PySem.W.Frag) (ta : TA) : TI := fun σ H R => ta σ H fun vs H1 => ∃ a xs, vs = [.ref a] ∧ SqT K H1 a xs ∧ R (IteT K a) H1
theorem pi_enumT {X : Cx} {e : Expr} {ta : TA} {p pos tpos : Pos} {elts : List Expr} {kk : Nat} (hg : Gl X "enumerate") (hm : X.mg "enumerate" = none) (ha : PA X [e] ta) (hs : starEach [e] X.env = [(false, eval e X.env)] := by rfl) :
    PI X (.Tuple elts kk tpos) (.Call (.Name "enumerate" p) [e] [] pos) (iEnumT X.K ta) := by
  refine ⟨fun pins s σ H R I h => ?_⟩
  refine Call_ (ld_blt I hg hm boot_enumerate (PyProof.Rows.callWith_type1 (thn (ha.run pos pins s σ H _ I h) fun us s1 ⟨vs, H1, I1, r1, q1⟩ => ?_) hs rfl))
  obtain ⟨a, xs, ex, hq, q⟩ := q1
  subst ex
  cases r1 with
  | cons r rr =>
    cases rr
    cases r
    obtain ⟨its, rv, p', hz⟩ := I1.tuple hq
    have hal : a < s1.heap.objs.size := p'.lt
    refine enum_begins1 (begins_tuple a its.toArray) p' fun h' he hit hsz hk => wpAny_pyIter_enum he ?_
    have I2 : Inv X pins σ H1 { s1 with heap := h' } := I1.kept (t' := s1.toks) hk
    refine ⟨s1.heap.objs.size + 1, [s1.heap.objs.size + 1, s1.heap.objs.size], _, _, H1, rfl, I2, turn_enumT a (s1.heap.objs.size + 1) s1.heap.objs.size, ⟨⟨.none, he⟩, ⟨_, hit, rfl, rfl⟩, Nat.succ_ne_self _, Nat.ne_of_gt (Nat.lt_succ_of_lt hal), Nat.ne_of_lt hal⟩, fun b hb => ?_, q⟩
    have e' : b = s1.heap.objs.size + 1 ∨ b = s1.heap.objs.size := by simpa using hb
    have hle : s1.heap.objs.size ≤ b := by
      rcases e' with z | z
      · rw [z]; exact Nat.le_add_right _ _
      · rw [z]; exact Nat.le_refl _
    exact I1.fpOk hle (I1.hok.fresh hle)
theorem walk_enumT {K : PySem.W.Frag} {a : Addr} {xs : List V} : Walk (IteT K a) xs.length (fun H => SqT K H a xs) (YPair (fun i => some (.int (i : Nat))) (fun i => xs[i]?)) := by
  refine ⟨fun i _ hi q => ⟨xs, xs[i], q, by simp [hi]⟩, fun _ q => ⟨xs, q, rfl⟩, fun i H v H' _ q y => ?_⟩
  obtain ⟨T, x, h1, h2, h3, h4⟩ := y
  exact ⟨T, .int (i : Nat), x, h1, h2, h3, rfl, h4 xs q⟩
end Kt
namespace Kt
open PySem PySem.Spec PyProof.Rows L2
/-! ### a tuple whose object is known (its methods may be called): tuple(list), t.index(text) -/
theorem call_tupleF {X : Cx} (K : PySem.W.Frag) (hK : X.K = K := by rfl) : CallR X (.type "tuple") (fun xs H Q => ∃ p ys, xs = [.ref p] ∧ SqL K H p ys ∧ ∀ l o, H l = none → o.dict = none → Q (.ref l) (upd H l (.frz o (.tup ys)))) := by
  subst hK
  intro pins s σ H xs us Q I r h
  obtain ⟨p, ys, rfl, hq, q⟩ := h
  obtain ⟨u, rfl, rx⟩ := vals1 r
  cases rx
  obtain ⟨its, r', pl, hz⟩ := I.list hq
  have hlen := r'.length
  refine call_tuple_list pl.isList (fun h' kp => ?_) (by simp only [List.size_toArray] <;> omega)
  have I1 : Inv X pins σ H { s with heap := h' } := I.kept (t' := s.toks) kp
  have hn : H h'.objs.size = none := I1.hok.fresh (Nat.le_refl _)
  have I2 : Inv X pins σ (upd H h'.objs.size (.frz { cls := .type "tuple", data := .seq its.toArray } (.tup ys))) { s with heap := h'.push { cls := .type "tuple", data := .seq its.toArray } } :=
    I1.laid (t' := s.toks) (fun b o e => Heap.get?_push_of_some _ e) (Nat.le_refl _) (show ObjOk X.prog X.w _ _ _ (.frz _ (.tup ys)) from ⟨Heap.get?_push_size _ rfl, hz, its, r', IsTup.new _ _⟩)
  exact ⟨.ref h'.objs.size, _, I2, rfl, q _ _ hn rfl⟩
def tTI (to te : TE) : TE := fun σ H Q => to σ H fun x H1 => ∃ p ob, ∃ ys : List Str, x = .ref p ∧ H1 p = some (.frz ob (.tup (ys.map V.str))) ∧ ob.dict = none ∧ tCons te tNil σ H1 fun xs H2 => ∃ z j, xs = [.str z] ∧ H2 p = some (.frz ob (.tup (ys.map V.str))) ∧ ys[j]? = some z ∧ (∀ m, m < j → ys[m]? ≠ some z) ∧ Q (.int (j : Nat)) H2
theorem pe_tupIndex {X : Cx} {o e : Expr} {to te : TE} {apos cpos : Pos} (ho : PE X o to) (he : PE X e te)
    (hbase : attributeBase o "index" X.env (eval o X.env) = eval o X.env := by rfl)
    (hfew : ((backTo cpos (starEach (e :: []) X.env)).all (fun x => !x.1) && (backToKw cpos (keywordEach [] X.env)).all (fun x => x.1.isSome)
      && decide ((e :: []).length + ([] : List Keyword).length + (if ([] : List Keyword).isEmpty then 0 else 1) < 30)) = true := by rfl)
    (hline : (apos.endLine == cpos.line) = true := by rfl) (hs : starEach (e :: []) X.env = (false, eval e X.env) :: starEach [] X.env := by rfl) (hplain : (backTo cpos (starEach [] X.env)).any (·.1) = false := by rfl) :
    PE X (.Call (.Attribute o "index" apos) [e] [] cpos) (tTI to te) := by
  refine ⟨fun pins s σ H Q I h => ?_⟩
  refine wpAny_Call_method_late hbase hfew hline rfl (thn (ho.run pins s σ H _ I h) fun v s1 ⟨x, H1, I1, r1, p, ob, ys, ex, hp, hd, q1⟩ => ?_)
  subst ex
  obtain rfl : v = Value.ref p := r1
  obtain ⟨hob, _, its, rv, ht⟩ := (show ObjOk X.prog X.w H1 s1.heap p (.frz ob (.tup (ys.map V.str))) from I1.hok p _ hp)
  have hT : s1.TypeIs (.ref p) "tuple" := let ⟨o, ho, hc, _⟩ := ht; ⟨o, ho, hc⟩
  refine ⟨"tuple", "tuple.index", PySem.F.plainAttrs_tuple, PySem.F.slot_tuple_index, PySem.F.type_tuple_index, hT, fun a ea => ⟨ob, by cases ea; exact hob, hd⟩, ?_⟩
  have hA := (pa_cons he pa_nil hs).run cpos pins s1 σ H1 _ I1 q1
  rw [hs] at hA ⊢
  refine Calls.callWith_builtin (by show (false || (backTo cpos (starEach [] X.env)).any (·.1)) = false; rw [hplain] <;> rfl) (Calls.evalArgs_plain ?_)
  refine thn hA fun us s2 ⟨vs, H2, I2, r2, z, j, ez, hp2, hj, hno, q2⟩ => ?_
  exact mt_tup_index pins s2 σ H2 (.ref p) vs (.ref p) us Q I2 rfl r2 ⟨p, ys, z, j, rfl, ez, .inl (.inr ⟨ob, hp2⟩), hj, hno, q2⟩
end Kt
namespace Kt
open PySem PySem.Spec PyProof.Rows L2
/-! ### the text by places -/
def top (i : Nat) : Stmt := PySem.Challenge.pw_kepttogether_k78_whole_commands.main.body.getD i (.Pass ⟨0, 0, 0, 0⟩)
abbrev sNPinit : Stmt := inClass (top 5) 0
abbrev sIsName : Stmt := top 41
abbrev sAreNames : Stmt := top 42
abbrev sIsNameOf : Stmt := top 43
abbrev sIsCommand : Stmt := top 44
abbrev sWith : Stmt := top 45
abbrev sChanged : Stmt := top 46
abbrev sEdInit : Stmt := inClass (top 47) 0
abbrev sAct : Stmt := inClass (top 47) 1
abbrev sNames : Stmt := inClass (top 47) 3
abbrev sSets : Stmt := inClass (top 47) 4
abbrev sInOrder : Stmt := inClass (top 47) 5
abbrev sSystem : Stmt := inClass (top 47) 6
abbrev sJournal : Stmt := inClass (top 47) 13
abbrev sStream : Stmt := top 49
abbrev sNext : Stmt := top 50
abbrev sIsInt : Stmt := top 51
abbrev sEqual : Stmt := top 52
abbrev sShuf : Stmt := top 53
abbrev sWords : Stmt := top 54
abbrev sCommand : Stmt := top 55
abbrev sWhy : Stmt := top 56
abbrev sBehind : Stmt := top 57
abbrev sTold : Stmt := top 58
abbrev sSysOf : Stmt := top 59
abbrev sToldAct : Stmt := top 60
abbrev sLaw : Stmt := top 61
/-! ### what the top leaves -/
structure Blt (mg : Str → Option Value) : Prop where
  isinstance : mg "isinstance" = none
  len : mg "len" = none
  all : mg "all" = none
  tuple : mg "tuple" = none
  sorted : mg "sorted" = none
  enumerate : mg "enumerate" = none
  list : mg "list" = none
  range : mg "range" = none
  abs : mg "abs" = none
  int : mg "int" = none
  str : mg "str" = none
  bool : mg "bool" = none
  alphabet : ∃ t, mg "ALPHABET" = some (.str "abcdefghijklmnopqrstuvwxyz" t)
  longest : ∃ t, mg "LONGEST" = some (.int 8 t)
  mostSets : ∃ t, mg "MOST_SETS_editor" = some (.int 8 t)
  mostElements : ∃ t, mg "MOST_ELEMENTS_editor" = some (.int 8 t)
  mostCommands : ∃ t, mg "MOST_COMMANDS" = some (.int 20 t)
/-- a def of the text that may be called by its name -/
def Has (P : Program) (w : World) (K : PySem.W.Frag) (mg : Str → Option Value) (base : Heap) (CX : CXT) (k : Nat) (x : Str) (ps : List Str) (sp : Sp) : Prop :=
  ∃ (f : Addr) (fd : FuncData), FnOk P w K mg base CX k f fd ps sp ∧ mg x = some (.ref f) ∧ PySem.W.keepIn K (.ref f) = true ∧ Binds K fd ps []
/-! ### the data -/
def StrT (H : Hp) (v : V) (ss : List Str) : Prop := ∃ a, v = .ref a ∧ H a = some (.tup (ss.map V.str))
def PairV (H : Hp) (v : V) (p : Str × List Str) : Prop := ∃ a q, v = .ref a ∧ H a = some (.tup [.str p.1, q]) ∧ StrT H q p.2
abbrev Sets := List (Str × List Str)
def SetsT (H : Hp) (v : V) (S : Sets) : Prop := ∃ a vs, v = .ref a ∧ H a = some (.tup vs) ∧ Paired (PairV H) vs S
def SetsL (H : Hp) (v : V) (S : Sets) : Prop := ∃ a vs, v = .ref a ∧ H a = some (.lst vs) ∧ Paired (PairV H) vs S
inductive Cmd where
  | add (n : Str) (ch : List Str)
  | drop (n : Str)
  | put (n e : Str)
  | take (n e : Str)
def Cmd.name : Cmd → Str
  | .add n _ => n
  | .drop n => n
  | .put n _ => n
  | .take n _ => n
def CmdV (H : Hp) (v : V) : Cmd → Prop
  | .add n ch => ∃ a q, v = .ref a ∧ H a = some (.tup [.str "add", .str n, q]) ∧ StrT H q ch
  | .drop n => ∃ a, v = .ref a ∧ H a = some (.tup [.str "drop", .str n])
  | .put n e => ∃ a, v = .ref a ∧ H a = some (.tup [.str "put", .str n, .str e])
  | .take n e => ∃ a, v = .ref a ∧ H a = some (.tup [.str "take", .str n, .str e])
/-- equal data, of a depth of at most n -/
def EqV (H : Hp) : Nat → V → V → Prop
  | 0, x, y => (∃ i, x = .int i ∧ y = .int i) ∨ (∃ s, x = .str s ∧ y = .str s)
  | n + 1, x, y => EqV H 0 x y ∨ ∃ a b xs ys, x = .ref a ∧ y = .ref b ∧ Rd H a (.tup xs) ∧ Rd H b (.tup ys) ∧ xs.length = ys.length ∧ xs.length ≤ 1000 ∧ ∀ (i : Nat) u v, xs[i]? = some u → ys[i]? = some v → EqV H n u v
theorem StrT.same {H H' : Hp} {v : V} {ss : List Str} (s : Same H H') (h : StrT H v ss) : StrT H' v ss := let ⟨a, e, q⟩ := h; ⟨a, e, s _ _ q⟩
theorem PairV.same {H H' : Hp} {v : V} {p : Str × List Str} (s : Same H H') (h : PairV H v p) : PairV H' v p := let ⟨a, q, e, h1, h2⟩ := h; ⟨a, q, e, s _ _ h1, h2.same s⟩
theorem pairs_same {H H' : Hp} {vs : List V} {S : Sets} (s : Same H H') (h : Paired (PairV H) vs S) : Paired (PairV H') vs S := Paired.mapP h fun _ _ q => q.same s
theorem SetsT.same {H H' : Hp} {v : V} {S : Sets} (s : Same H H') (h : SetsT H v S) : SetsT H' v S := let ⟨a, vs, e, h1, h2⟩ := h; ⟨a, vs, e, s _ _ h1, pairs_same s h2⟩
theorem SetsL.same {H H' : Hp} {v : V} {S : Sets} (s : Same H H') (h : SetsL H v S) : SetsL H' v S := let ⟨a, vs, e, h1, h2⟩ := h; ⟨a, vs, e, s _ _ h1, pairs_same s h2⟩
theorem CmdV.same {H H' : Hp} {v : V} {c : Cmd} (s : Same H H') (h : CmdV H v c) : CmdV H' v c := by
  cases c with
  | add n ch => obtain ⟨a, q, e, h1, h2⟩ := h; exact ⟨a, q, e, s _ _ h1, h2.same s⟩
  | drop n => obtain ⟨a, e, h1⟩ := h; exact ⟨a, e, s _ _ h1⟩
  | put n x => obtain ⟨a, e, h1⟩ := h; exact ⟨a, e, s _ _ h1⟩
  | take n x => obtain ⟨a, e, h1⟩ := h; exact ⟨a, e, s _ _ h1⟩
/-- names: a tuple of texts that is read -/
def NamT (H : Hp) (v : V) (ns : List Str) : Prop := ∃ a, v = .ref a ∧ Rd H a (.tup (ns.map V.str))
/-- .. whose object is known to have no dict -/
def FrzT (H : Hp) (v : V) (ns : List Str) : Prop := ∃ a o, v = .ref a ∧ H a = some (.frz o (.tup (ns.map V.str))) ∧ o.dict = none
theorem rd_same {H H' : Hp} {a : Addr} {u : HO} (s : Same H H') (h : Rd H a u) : Rd H' a u := by
  rcases h with h | ⟨o, h⟩
  · exact .inl (s _ _ h)
  · exact .inr ⟨o, s _ _ h⟩
theorem EqV.same {H H' : Hp} (s : Same H H') : ∀ {n : Nat} {x y : V}, EqV H n x y → EqV H' n x y
  | 0, _, _, h => by
    unfold EqV at h ⊢
    exact h
  | n + 1, x, y, h => by
    unfold EqV at h ⊢
    rcases h with h | ⟨a, b, xs, ys, e1, e2, h1, h2, hl, hb, h⟩
    · exact .inl (EqV.same s h)
    · exact .inr ⟨a, b, xs, ys, e1, e2, rd_same s h1, rd_same s h2, hl, hb, fun i u v hu hv => EqV.same s (h i u v hu hv)⟩
theorem NamT.same {H H' : Hp} {v : V} {ns : List Str} (s : Same H H') (h : NamT H v ns) : NamT H' v ns := let ⟨a, e, q⟩ := h; ⟨a, e, rd_same s q⟩
theorem FrzT.same {H H' : Hp} {v : V} {ns : List Str} (s : Same H H') (h : FrzT H v ns) : FrzT H' v ns := let ⟨a, o, e, q, d⟩ := h; ⟨a, o, e, s _ _ q, d⟩
theorem FrzT.nam {H : Hp} {v : V} {ns : List Str} (h : FrzT H v ns) : NamT H v ns := let ⟨a, o, e, q, _⟩ := h; ⟨a, e, .inr ⟨o, q⟩⟩
theorem StrT.nam {H : Hp} {v : V} {ns : List Str} (h : StrT H v ns) : NamT H v ns := let ⟨a, e, q⟩ := h; ⟨a, e, .inl q⟩
theorem tyx_tup {K : PySem.W.Frag} {H : Hp} {a : Addr} {xs : List V} (h : Rd H a (.tup xs)) : TyX K H (.ref a) (.type "tuple") := by
  rcases h with h | ⟨o, h⟩
  · exact .base (.tup h)
  · exact .fTuple h
/-- something new at p -/
theorem same_new {H : Hp} {p : Addr} {o : HO} (n : H p = none) : Same H (upd H p o) := fun b u e => by
  rw [upd_ne (ne_of_none e n)]
  exact e
/-- all but s is kept -/
def Keep (s : Addr) (H H' : Hp) : Prop := ∀ b o, H b = some o → b ≠ s → H' b = some o
theorem Keep.trans {s : Addr} {H H1 H2 : Hp} (a : Keep s H H1) (b : Keep s H1 H2) : Keep s H H2 := fun c o h n => b c o (a c o h n) n
theorem Same.keep {s : Addr} {H H' : Hp} (a : Same H H') : Keep s H H' := fun b o h _ => a b o h
/-! ### names -/
def alphabet : Str := "abcdefghijklmnopqrstuvwxyz"
structure OkName (x : Str) : Prop where
  lo : 1 ≤ x.length
  hi : x.length ≤ 8
  all : ∀ c ∈ x.cps.toList, c ∈ alphabet.cps.toList
/-! ### small words -/
theorem iteD {c A B : Prop} [Decidable c] (hc : c) (h : A) : if decide c = true then A else B := by
  rw [decide_eq_true hc]
  exact iteT h
theorem iteND {c A B : Prop} [Decidable c] (hc : ¬ c) (h : B) : if decide c = true then A else B := by
  rw [decide_eq_false hc]
  exact iteF h
theorem lt_line {n : Nat} (h : n ≤ 1000) : n < sizeLine := small1000 h
theorem le_line {n : Nat} (h : n ≤ 1000) : n ≤ sizeLine := Nat.le_of_lt (small1000 h)
/-- n times True -/
def trues (n : Nat) : List V := (List.replicate n true).map V.bl
theorem trues_more (n : Nat) : trues n ++ [.bl true] = trues (n + 1) := by
  unfold trues
  rw [List.replicate_succ', List.map_append]
  rfl
theorem trues_len (n : Nat) : (trues n).length = n := by simp [trues]
theorem all_trues (n : Nat) : (List.replicate n true).all id = true := by
  induction n with
  | zero => rfl
  | succ n ih => simp [List.replicate_succ, ih]
/-! ### is_name -/
def spIsName : Sp := fun vs H Q _ => ∃ x, vs = [.str x] ∧ OkName x ∧ ∀ H', Same H H' → Q (.bl true) H'
section
variable {P : Program} {w : World} {K : PySem.W.Frag} {mg : Str → Option Value} {base : Heap}
theorem scIsName : FnScope ["value", "letter"] ["value"] (defScope sIsName) := ⟨rfl, rfl, rfl, by decide +kernel, rfl, by decide +kernel, by decide +kernel⟩
theorem ok_isName {f : Addr} {fd : FuncData} (F : Fun K "is_name" "is_name" sIsName f fd) (B : Blt mg) : FnOk P w K mg base CX0 1 f fd ["value"] spIsName := by
  refine F.ok scIsName (fun vs H Q E h => ?_) (fun cdv A outer s H vs Q E hr h => ?_)
  · obtain ⟨x, rfl, _⟩ := h
    rfl
  · obtain ⟨x, rfl, hx, k⟩ := h
    obtain ⟨tA, mA⟩ := B.alphabet
    obtain ⟨tL, mL⟩ := B.longest
    refine ⟨_, pss_one (ps_ret (pe_and (pe_callB call_isi (by rfl) B.isinstance boot_isinstance (pa_cons (pv 0) (pa_cons (pe_bltn (v := .ty "str") (by rfl) B.str boot_str rfl) pa_nil)))
      (pe_and (pe_chain op_le op_le pe_int (pe_callB call_len (by rfl) B.len PySem.boot_len (pa_cons (pv 0) pa_nil)) (pe_glob (v := .int 8) (by rfl) mL ⟨_, rfl⟩))
        (pe_one (pe_callB (cr_all rfl) (by rfl) B.all boot_all (pa_cons
          (pe_lc (own := [("letter", 1)]) (g := gName 1) (tt := tYes) (by rfl) scIsName.nd (pi_str (pv 0)) (blkOk_by (own := [("letter", 1)]) (N := ["value", "letter"]) (sc := defScope sIsName) (by decide +kernel))
            (fun _ _ _ _ _ => pg_name (i := 1) scIsName.nd rfl (Or.inl rfl)) (fun _ _ _ _ _ => pts_nil)
            (fun _ _ _ _ _ => pe_cmpR op_in_sign (pv 1) (pe_glob (v := .str alphabet) (by rfl) mA ⟨_, rfl⟩) (by rfl))) pa_nil)))))), ?_⟩
    refine ⟨_, rfl, _, _, .type "str", .type "str", true, rfl, .ty "str", .base (.str x), kit_ty (by decide +kernel), true, rfl, iteT ?_⟩
    have hl : x.length ≤ sizeLine := le_line (Nat.le_trans hx.hi (by decide))
    refine ⟨_, rfl, _, x.length, rfl, ⟨hl, rfl⟩, _, _, rfl, rfl, _, rfl, iteD (by have := hx.lo; omega) ?_⟩
    refine ⟨_, _, rfl, rfl, _, rfl, iteD (by have := hx.hi; omega) ?_⟩
    refine ⟨_, rfl, x, rfl, fun D hD => lc_it (walk_str (z := x)) (fun i H' => Same H H' ∧ H' D = some (.lst (trues i))) ⟨same_new hD, upd_same⟩ (fun _ _ _ _ => True.intro) ?_ ?_⟩
    · rintro i y H' H'' hi ⟨s', hD'⟩ ⟨rfl, c, hc, rfl⟩
      refine ⟨rfl, _, rfl, c, alphabet, rfl, rfl, _, hD', ?_, ?_⟩
      · rw [trues_len]
        exact lt_line (Nat.le_trans (Nat.le_of_lt hi) (Nat.le_trans hx.hi (by decide)))
      · have hm : c ∈ alphabet.cps.toList := hx.all c (Array.mem_toList_iff.mpr (Array.mem_of_getElem? hc))
        rw [decide_eq_true hm, trues_more]
        exact ⟨fun b o e => by rw [upd_ne (ne_of_none e hD)]; exact s' b o e, upd_same⟩
    · rintro H' ⟨s', hD'⟩
      refine ⟨D, List.replicate x.cps.size true, rfl, SqL.of hD', ?_⟩
      rw [all_trues]
      exact k _ s'
end
end Kt
namespace Kt
open PySem PySem.Spec PyProof.Rows L2
theorem take_more {α : Type} : ∀ {l : List α} {i : Nat} {x : α}, l[i]? = some x → l.take (i + 1) = l.take i ++ [x]
  | [], i, x, h => by simp at h
  | a :: l, 0, x, h => by
    have e : a = x := Option.some.inj h
    subst e
    rfl
  | a :: l, i + 1, x, h => by
    have ih := take_more (l := l) (i := i) (x := x) h
    show a :: l.take (i + 1) = a :: l.take i ++ [x]
    rw [ih]
    rfl
theorem str_at {ss : List Str} {i : Nat} {y : V} (h : (ss.map V.str)[i]? = some y) : ∃ x, ss[i]? = some x ∧ y = .str x := by
  rw [List.getElem?_map] at h
  cases e : ss[i]? with
  | none => rw [e] at h; cases h
  | some x => rw [e] at h; exact ⟨x, rfl, (Option.some.inj h).symm⟩
theorem nodup_take {ss : List Str} {i : Nat} {x : Str} (hn : ss.Nodup) (h : ss[i]? = some x) : x ∉ ss.take i := fun hm => by
  obtain ⟨j, hj⟩ := List.mem_iff_getElem?.mp hm
  rw [List.getElem?_take] at hj
  split at hj
  · rename_i hlt
    have := nd_ix hn hj h
    omega
  · cases hj
def keyed (l : List Str) : List (Key × V) := l.map fun s => ((Sum.inr s : Key), V.bl true)
theorem putK_fresh {l : List Str} {x : Str} (h : x ∉ l) : putK (keyed l) (Sum.inr x) (.bl true) = keyed (l ++ [x]) := by
  have e : ((keyed l).any fun kv => decide (kv.1 = (Sum.inr x : Key))) = false := by
    rw [List.any_eq_false]
    intro kv hm
    unfold keyed at hm
    obtain ⟨s, hs, rfl⟩ := List.mem_map.mp hm
    simp only [decide_eq_true_eq]
    intro q
    exact h (by rw [← Sum.inr.inj q]; exact hs)
  unfold putK
  rw [e, if_neg Bool.false_ne_true]
  unfold keyed
  rw [List.map_append]
  rfl
theorem inV_str {x : Str} {ss : List Str} : inV (.str x) (ss.map V.str) = decide (x ∈ ss) := by
  unfold inV
  rw [List.any_map]
  by_cases h : x ∈ ss
  · rw [decide_eq_true h, List.any_eq_true]
    exact ⟨x, h, by simp [eqV]⟩
  · rw [decide_eq_false h, List.any_eq_false]
    intro y hy
    simp [eqV]
    intro e
    exact h (by rw [← e]; exact hy)
theorem flat_strs (ss : List Str) : (ss.map V.str).all flatV = true := by
  rw [List.all_eq_true]
  intro v hv
  obtain ⟨s, _, rfl⟩ := List.mem_map.mp hv
  rfl
theorem same_upd {H H' : Hp} {D : Addr} {o : HO} (n : H D = none) (s : Same H H') : Same H (upd H' D o) := fun b u e => by
  rw [upd_ne (ne_of_none e n)]
  exact s b u e
section
variable {P : Program} {w : World} {K : PySem.W.Frag} {mg : Str → Option Value} {base : Heap}
def spAreNames : Sp := fun vs H Q _ => ∃ v ss, vs = [v] ∧ NamT H v ss ∧ (∀ x ∈ ss, OkName x) ∧ ss.Nodup ∧ ss.length ≤ 100 ∧ ∀ H', Same H H' → Q (.bl true) H'
theorem scAreNames : FnScope ["value", "one"] ["value"] (defScope sAreNames) := ⟨rfl, rfl, rfl, by decide +kernel, rfl, by decide +kernel, by decide +kernel⟩
theorem ok_areNames {f : Addr} {fd : FuncData} (F : Fun K "are_names" "are_names" sAreNames f fd) (B : Blt mg) (HN : Has P w K mg base CX0 1 "is_name" ["value"] spIsName) : FnOk P w K mg base CX0 2 f fd ["value"] spAreNames := by
  obtain ⟨fN, fdN, GN, mN, kN, bN⟩ := HN
  refine F.ok scAreNames (fun vs H Q E h => ?_) (fun cdv A outer s H vs Q E hr h => ?_)
  · obtain ⟨v, ss, rfl, _⟩ := h
    rfl
  · obtain ⟨v, ss, rfl, ⟨a, rfl, ha⟩, hok, hnd, hlen, k⟩ := h
    refine ⟨_, pss_cons (ps_if (PW.pt (pw_or (pt_not (pt_val (pe_callB call_isi (by rfl) B.isinstance boot_isinstance (pa_cons (pv 0) (pa_cons (pe_bltn (v := .ty "tuple") (by rfl) B.tuple boot_tuple rfl) pa_nil)))))
        (pw_or1 (pt_not (pt_val (pe_callB (cr_all rfl) (by rfl) B.all boot_all (pa_cons
          (pe_lc (own := [("one", 1)]) (g := gName 1) (tt := tYes) (by rfl) scAreNames.nd (pi_tup (pv 0)) (blkOk_by (own := [("one", 1)]) (N := ["value", "one"]) (sc := defScope sAreNames) (by decide +kernel))
            (fun _ _ _ _ _ => pg_name (i := 1) scAreNames.nd rfl (Or.inl rfl)) (fun _ _ _ _ _ => pts_nil)
            (fun _ _ _ _ _ => pe_call GN hr (by rfl) mN kN bN .nil pass0 (pa_cons (pv 1) pa_nil))) pa_nil)))))))
        (pss_one (ps_ret pe_bl)) pss_nil)
      (pss_one (ps_ret (pe_cmpR op_eq (pe_callB call_lenD (by rfl) B.len PySem.boot_len (pa_cons
          (pe_dc (own := [("one", 1)]) (g := gName 1) (tt := tYes) (by rfl) scAreNames.nd (pi_tup (pv 0)) (blkOk_by (own := [("one", 1)]) (N := ["value", "one"]) (sc := defScope sAreNames) (by decide +kernel))
            (fun _ _ _ _ _ => pg_name (i := 1) scAreNames.nd rfl (Or.inl rfl)) (fun _ _ _ _ _ => pts_nil)
            (fun _ _ _ _ _ => pv 1) (fun _ _ _ _ _ => pe_bl)) pa_nil))
        (pe_callB call_len (by rfl) B.len PySem.boot_len (pa_cons (pv 0) pa_nil)) (nomark _)))), ?_⟩
    refine ⟨_, rfl, _, _, .type "tuple", .type "tuple", true, rfl, .ty "tuple", tyx_tup ha, kit_ty (by decide +kernel), true, rfl, ?_⟩
    refine ⟨_, rfl, a, rfl, ⟨_, Or.inl ha⟩, fun D hD => lc_it (walk_tup (K := K) (a := a) (xs := ss.map V.str)) (fun i H' => Same H H' ∧ H' D = some (.lst (trues i))) ⟨same_new hD, upd_same⟩ (fun i H' _ p => Or.inl (rd_same p.1 ha)) ?_ ?_⟩
    · rintro i y H' H'' hi ⟨s', hD'⟩ ⟨rfl, hy⟩
      obtain ⟨x, hx, rfl⟩ := str_at hy
      have hi' : i < ss.length := by rw [List.length_map] at hi; exact hi
      refine ⟨rfl, _, rfl, x, rfl, hok x (List.mem_of_getElem? hx), fun H3 s3 => ⟨_, s3 _ _ hD', ?_, ?_⟩⟩
      · rw [trues_len]
        exact lt_line (by omega)
      · rw [trues_more]
        exact ⟨same_upd hD (s'.trans s3), upd_same⟩
    · rintro H' ⟨s', hD'⟩
      refine ⟨D, List.replicate (ss.map V.str).length true, rfl, SqL.of hD', ?_⟩
      rw [all_trues]
      refine ⟨true, rfl, ?_⟩
      have ha' := rd_same s' ha
      refine ⟨_, rfl, a, rfl, ⟨_, Or.inl ha'⟩, fun D2 hD2 => dc_tup (K := K) (a := a) (xs := ss.map V.str) (fun i H2 => Same H' H2 ∧ H2 D2 = some (.dK (keyed (ss.take i)))) ⟨same_new hD2, upd_same⟩ (fun i H2 _ p => Or.inl (rd_same p.1 ha')) ?_ ?_⟩
      · rintro i y H2 hy ⟨s2, hD2'⟩
        obtain ⟨x, hx, rfl⟩ := str_at hy
        have hi' : i < ss.length := (List.getElem?_eq_some_iff.mp hx).1
        refine ⟨rfl, _, rfl, keyed (ss.take i), .inr x, rfl, hD2', ?_, ?_⟩
        · unfold keyed
          rw [List.length_map, List.length_take]
          exact lt_line (by omega)
        · rw [putK_fresh (nodup_take hnd hx), ← take_more hx]
          exact ⟨same_upd hD2 s2, upd_same⟩
      · rintro H2 ⟨s2, hD2'⟩
        refine ⟨D2, _, rfl, hD2', _, rfl, _, (ss.map V.str).length, rfl, .inr ⟨_, Or.inl (rd_same s2 ha'), rfl⟩, rfl, ?_⟩
        have e : ((keyed (ss.take (ss.map V.str).length)).length : Int) = ((ss.map V.str).length : Int) := by
          unfold keyed
          rw [List.length_map, List.length_map, List.take_length]
        show Q (.bl (decide (V.int ((keyed (ss.take (ss.map V.str).length)).length : Int) = V.int ((ss.map V.str).length : Int)))) H2
        rw [decide_eq_true (by rw [e])]
        exact k _ (s'.trans s2)
def spIsNameOf : Sp := fun vs H Q _ => ∃ x v ns, vs = [.str x, v] ∧ NamT H v ns ∧ x ∈ ns ∧ ∀ H', Same H H' → Q (.bl true) H'
theorem scIsNameOf : FnScope ["value", "names"] ["value", "names"] (defScope sIsNameOf) := ⟨rfl, rfl, rfl, by decide +kernel, rfl, by decide +kernel, by decide +kernel⟩
theorem ok_isNameOf {f : Addr} {fd : FuncData} (F : Fun K "is_name_of" "is_name_of" sIsNameOf f fd) (B : Blt mg) : FnOk P w K mg base CX0 1 f fd ["value", "names"] spIsNameOf := by
  refine F.ok scIsNameOf (fun vs H Q E h => ?_) (fun cdv A outer s H vs Q E hr h => ?_)
  · obtain ⟨x, v, ns, rfl, _⟩ := h
    rfl
  · obtain ⟨x, v, ns, rfl, ⟨a, rfl, ha⟩, hx, k⟩ := h
    refine ⟨_, pss_one (ps_ret (pe_and (pe_callB call_isi (by rfl) B.isinstance boot_isinstance (pa_cons (pv 0) (pa_cons (pe_bltn (v := .ty "str") (by rfl) B.str boot_str rfl) pa_nil)))
      (pe_one (pe_cmpR op_in_seq (pv 0) (pv 1) (by rfl))))), ?_⟩
    refine ⟨_, rfl, _, _, .type "str", .type "str", true, rfl, .ty "str", .base (.str x), kit_ty (by decide +kernel), true, rfl, ?_⟩
    refine ⟨_, rfl, _, rfl, a, _, rfl, .inr (Or.inl ha), rfl, flat_strs ns, ?_⟩
    show Q (.bl (inV (.str x) (ns.map V.str))) H
    rw [inV_str, decide_eq_true hx]
    exact k _ (Same.refl _)
end
end Kt
namespace Kt
open PySem PySem.Spec PyProof.Rows L2
/-! ### is_command -/
def OkCmd (names : List Str) : Cmd → Prop
  | .add n ch => OkName n ∧ ch.Nodup ∧ (∀ x ∈ ch, x ∈ names) ∧ ch.length ≤ 8
  | .drop n => OkName n
  | .put n e => OkName n ∧ e ∈ names
  | .take n e => OkName n ∧ e ∈ names
theorem OkCmd.name {names : List Str} {c : Cmd} (h : OkCmd names c) : OkName c.name := by
  cases c with
  | add n ch => exact h.1
  | drop n => exact h
  | put n e => exact h.1
  | take n e => exact h.1
def Cmd.word : Cmd → Str
  | .add _ _ => "add"
  | .drop _ => "drop"
  | .put _ _ => "put"
  | .take _ _ => "take"
/-- what the tuple of a command holds behind its word and name -/
def CmdR (H : Hp) : List V → Cmd → Prop
  | r, .add _ ch => ∃ q, r = [q] ∧ StrT H q ch
  | r, .drop _ => r = []
  | r, .put _ e => r = [.str e]
  | r, .take _ e => r = [.str e]
theorem CmdV.open_ {H : Hp} {v : V} {c : Cmd} (h : CmdV H v c) : ∃ a r, v = .ref a ∧ H a = some (.tup (.str c.word :: .str c.name :: r)) ∧ CmdR H r c := by
  cases c with
  | add n ch => obtain ⟨a, q, e, h1, h2⟩ := h; exact ⟨a, [q], e, h1, q, rfl, h2⟩
  | drop n => obtain ⟨a, e, h1⟩ := h; exact ⟨a, [], e, h1, rfl⟩
  | put n x => obtain ⟨a, e, h1⟩ := h; exact ⟨a, [.str x], e, h1, rfl⟩
  | take n x => obtain ⟨a, e, h1⟩ := h; exact ⟨a, [.str x], e, h1, rfl⟩
theorem CmdR.len {H : Hp} {r : List V} {c : Cmd} (h : CmdR H r c) : (∃ n, c = .drop n ∧ r.length = 0) ∨ ((∀ n, c ≠ .drop n) ∧ r.length = 1) := by
  cases c with
  | add n ch => obtain ⟨q, rfl, _⟩ := h; exact .inr ⟨fun _ z => (nomatch z), rfl⟩
  | drop n => obtain rfl := h; exact .inl ⟨n, rfl, rfl⟩
  | put n x => obtain rfl := h; exact .inr ⟨fun _ z => (nomatch z), rfl⟩
  | take n x => obtain rfl := h; exact .inr ⟨fun _ z => (nomatch z), rfl⟩
/-! ### rules with the written part said (within comprehensions) -/
section
variable {X : Cx}
theorem in_seqK (K : PySem.W.Frag) (h : X.K = K := by rfl) : OpR X (compareOp .In) (rIn K false) := by
  subst h
  exact op_in_seq
theorem ix_tupK (K : PySem.W.Frag) (h : X.K = K := by rfl) : IxR X (rIxT K) := by
  subst h
  exact ix_tup
theorem ix_listK (K : PySem.W.Frag) (h : X.K = K := by rfl) : IxR X (rIxL K) := by
  subst h
  exact ix_list
end
theorem ne_str {a b : Str} (h : a ≠ b) : ¬ (V.str a = V.str b) := fun e => h (by injection e)
section
variable {P : Program} {w : World} {K : PySem.W.Frag} {mg : Str → Option Value} {base : Heap}
def spIsCommand : Sp := fun vs H Q _ => ∃ v nv c names, vs = [v, nv] ∧ CmdV H v c ∧ NamT H nv names ∧ OkCmd names c ∧ (∀ x ∈ names, OkName x) ∧ ∀ H', Same H H' → Q (.bl true) H'
theorem scIsCommand : FnScope ["value", "names", "one"] ["value", "names"] (defScope sIsCommand) := ⟨rfl, rfl, rfl, by decide +kernel, rfl, by decide +kernel, by decide +kernel⟩
theorem ok_isCommand {f : Addr} {fd : FuncData} (F : Fun K "is_command" "is_command" sIsCommand f fd) (B : Blt mg) (HN : Has P w K mg base CX0 1 "is_name" ["value"] spIsName) (HA : Has P w K mg base CX0 2 "are_names" ["value"] spAreNames)
    (HO : Has P w K mg base CX0 1 "is_name_of" ["value", "names"] spIsNameOf) : FnOk P w K mg base CX0 3 f fd ["value", "names"] spIsCommand := by
  obtain ⟨fN, fdN, GN, mN, kN, bN⟩ := HN
  obtain ⟨fA, fdA, GA, mA, kA, bA⟩ := HA
  obtain ⟨fO, fdO, GO, mO, kO, bO⟩ := HO
  refine F.ok scIsCommand (fun vs H Q E h => ?_) (fun cdv A outer s H vs Q E hr h => ?_)
  · obtain ⟨v, nv, c, names, rfl, _⟩ := h
    rfl
  · obtain ⟨v, nv, c, names, rfl, hc, ⟨na, rfl, hna⟩, hok, hnames, k⟩ := h
    obtain ⟨a, r, rfl, ha, hR⟩ := hc.open_
    have hr1 : Room 1 _ := hr.mono (by decide)
    refine ⟨_, pss_cons (ps_if (PW.pt (pw_or (pt_not (pt_val (pe_callB call_isi (by rfl) B.isinstance boot_isinstance (pa_cons (pv 0) (pa_cons (pe_bltn (v := .ty "tuple") (by rfl) B.tuple boot_tuple rfl) pa_nil)))))
        (pw_or1 (pt_cmpR op_notIn_seq (pe_callB call_len (by rfl) B.len PySem.boot_len (pa_cons (pv 0) pa_nil)) (pe_tup (pa_cons pe_int (pa_cons pe_int pa_nil))) (by rfl)))))
        (pss_one (ps_ret pe_bl)) pss_nil)
      (pss_cons (ps_if (PW.pt (pw_or (pt_not (pt_val (pe_callB call_isi (by rfl) B.isinstance boot_isinstance (pa_cons (pe_ix ix_tup (pv 0) pe_int (fun _ _ => rfl)) (pa_cons (pe_bltn (v := .ty "str") (by rfl) B.str boot_str rfl) pa_nil)))))
        (pw_or1 (pt_not (pt_val (pe_call GN hr1 (by rfl) mN kN bN .nil pass0 (pa_cons (pe_ix ix_tup (pv 0) pe_int (fun _ _ => rfl)) pa_nil)))))))
        (pss_one (ps_ret pe_bl)) pss_nil)
      (pss_cons (ps_if (pt_cmpR op_eq (pe_ix ix_tup (pv 0) pe_int (fun _ _ => rfl)) pe_str (nomark _))
        (pss_one (ps_ret (pe_and (pe_cmpR op_eq (pe_callB call_len (by rfl) B.len PySem.boot_len (pa_cons (pv 0) pa_nil)) pe_int (nomark _))
          (pe_and (pe_call GA hr (by rfl) mA kA bA .nil pass0 (pa_cons (pe_ix ix_tup (pv 0) pe_int (fun _ _ => rfl)) pa_nil))
            (pe_one (pe_callB (cr_all rfl) (by rfl) B.all boot_all (pa_cons
              (pe_lc (own := [("one", 2)]) (g := gName 2) (tt := tYes) (by rfl) scIsCommand.nd (pi_tup (pe_ix ix_tup (pv 0) pe_int (fun _ _ => rfl))) (blkOk_by (own := [("one", 2)]) (N := ["value", "names", "one"]) (sc := defScope sIsCommand) (by decide +kernel))
                (fun _ _ _ _ _ => pg_name (i := 2) scIsCommand.nd rfl (Or.inl rfl)) (fun _ _ _ _ _ => pts_nil)
                (fun _ _ _ _ _ => pe_cmpR (in_seqK K) (pv 2) (pv 1) (by rfl))) pa_nil))))))) pss_nil)
      (pss_cons (ps_if (pt_cmpR op_in_seq (pe_ix ix_tup (pv 0) pe_int (fun _ _ => rfl)) (pe_tup (pa_cons pe_str (pa_cons pe_str pa_nil))) (by rfl))
        (pss_one (ps_ret (pe_and (pe_cmpR op_eq (pe_callB call_len (by rfl) B.len PySem.boot_len (pa_cons (pv 0) pa_nil)) pe_int (nomark _))
          (pe_one (pe_call GO hr1 (by rfl) mO kO bO .nil pass0 (pa_cons (pe_ix ix_tup (pv 0) pe_int (fun _ _ => rfl)) (pa_cons (pv 1) pa_nil))))))) pss_nil)
      (pss_one (ps_ret (pe_and (pe_cmpR op_eq (pe_ix ix_tup (pv 0) pe_int (fun _ _ => rfl)) pe_str (nomark _))
        (pe_one (pe_cmpR op_eq (pe_callB call_len (by rfl) B.len PySem.boot_len (pa_cons (pv 0) pa_nil)) pe_int (nomark _))))))))), ?_⟩
    -- a tuple of two or three
    refine ⟨_, rfl, _, _, .type "tuple", .type "tuple", true, rfl, .ty "tuple", .base (.tup ha), kit_ty (by decide +kernel), true, rfl, ?_⟩
    refine ⟨_, rfl, _, _, rfl, .inr ⟨_, SqT.of ha, rfl⟩, (by show 2 ≤ sizeLine; decide), fun p hp => ?_⟩
    have s1 : Same H (upd H p (.tup [.int 2, .int 3])) := same_new hp
    generalize hH1 : upd H p (.tup [.int 2, .int 3]) = H1 at s1
    have hp1 : H1 p = some (.tup [.int 2, .int 3]) := by rw [← hH1]; exact upd_same
    have hlen : (V.str c.word :: V.str c.name :: r).length = r.length + 2 := rfl
    have hin : inV (.int ((V.str c.word :: V.str c.name :: r).length : Nat)) [.int 2, .int 3] = true := by
      rcases hR.len with ⟨_, _, e⟩ | ⟨_, e⟩ <;> rw [hlen, e] <;> decide
    refine ⟨p, _, rfl, .inr (SqT.of hp1), rfl, rfl, false, by rw [hin]; rfl, ?_⟩
    -- a word and a name
    have ha1 := s1 _ _ ha
    refine ⟨_, rfl, a, _, _, _, rfl, rfl, SqT.of ha1, atI_nat (j := 0) rfl, _, _, .type "str", .type "str", true, rfl, .ty "str", .base (.str c.word), kit_ty (by decide +kernel), true, rfl, ?_⟩
    refine ⟨_, rfl, a, _, _, _, rfl, rfl, SqT.of ha1, atI_nat (j := 1) rfl, c.name, rfl, hok.name, fun H2 s2 => ⟨true, rfl, ?_⟩⟩
    have s12 := s1.trans s2
    have ha2 := s12 _ _ ha
    have hna2 := rd_same s12 hna
    refine ⟨_, rfl, a, _, _, _, rfl, rfl, SqT.of ha2, atI_nat (j := 0) rfl, rfl, _, rfl, ?_⟩
    cases c with
    | add n ch =>
      obtain ⟨q, rfl, hq⟩ := hR
      obtain ⟨hn, hnd, hsub, hl8⟩ := hok
      refine iteD rfl ?_
      refine ⟨_, rfl, _, _, rfl, .inr ⟨_, SqT.of ha2, rfl⟩, rfl, true, rfl, ?_⟩
      have hq2 := hq.same s12
      refine ⟨_, rfl, a, _, _, _, rfl, rfl, SqT.of ha2, atI_nat (j := 2) rfl, q, ch, rfl, hq2.nam, fun x hx => hnames x (hsub x hx), hnd, by omega, fun H3 s3 => ⟨true, rfl, ?_⟩⟩
      have ha3 := s3 _ _ ha2
      have hna3 := rd_same s3 hna2
      obtain ⟨qa, rfl, hqa⟩ := hq2.same s3
      refine ⟨_, rfl, a, _, _, _, rfl, rfl, SqT.of ha3, atI_nat (j := 2) rfl, qa, rfl, ⟨_, SqT.of hqa⟩, fun D hD => lc_it (walk_tup (K := K) (a := qa) (xs := ch.map V.str)) (fun i H' => Same H3 H' ∧ H' D = some (.lst (trues i))) ⟨same_new hD, upd_same⟩ (fun i H' _ p => SqT.of (p.1 _ _ hqa)) ?_ ?_⟩
      · rintro i y H' H'' hi ⟨s', hD'⟩ ⟨rfl, hy⟩
        obtain ⟨x, hx, rfl⟩ := str_at hy
        have hi' : i < ch.length := by rw [List.length_map] at hi; exact hi
        refine ⟨rfl, _, rfl, _, rfl, na, _, rfl, .inr (Or.inl (rd_same s' hna3)), rfl, flat_strs names, _, hD', ?_, ?_⟩
        · rw [trues_len]
          exact lt_line (by omega)
        · have e1 : inV (.str x) (names.map V.str) = true := by rw [inV_str, decide_eq_true (hsub x (List.mem_of_getElem? hx))]
          show Same H3 (upd H'' D (.lst (trues i ++ [V.bl (inV (.str x) (names.map V.str))]))) ∧ upd H'' D (.lst (trues i ++ [V.bl (inV (.str x) (names.map V.str))])) D = some (.lst (trues (i + 1)))
          rw [e1, trues_more]
          exact ⟨same_upd hD s', upd_same⟩
      · rintro H' ⟨s', hD'⟩
        refine ⟨D, List.replicate (ch.map V.str).length true, rfl, SqL.of hD', ?_⟩
        rw [all_trues]
        exact k _ ((s12.trans s3).trans s')
    | drop n =>
      obtain rfl := hR
      refine iteND (ne_str (by show ("drop" : Str) ≠ "add"; decide)) ?_
      refine ⟨_, rfl, a, _, _, _, rfl, rfl, SqT.of ha2, atI_nat (j := 0) rfl, (by show 2 ≤ sizeLine; decide), fun p2 hp2 => ?_⟩
      refine ⟨p2, _, rfl, .inr (SqT.of upd_same), rfl, rfl, false, rfl, ?_⟩
      have s3 : Same H2 (upd H2 p2 (.tup [.str "put", .str "take"])) := same_new hp2
      have ha3 := s3 _ _ ha2
      refine ⟨_, rfl, a, _, _, _, rfl, rfl, SqT.of ha3, atI_nat (j := 0) rfl, rfl, true, rfl, ?_⟩
      refine ⟨_, rfl, _, _, rfl, .inr ⟨_, SqT.of ha3, rfl⟩, rfl, ?_⟩
      exact k _ (s12.trans s3)
    | put n x =>
      obtain rfl := hR
      refine iteND (ne_str (by show ("put" : Str) ≠ "add"; decide)) ?_
      refine ⟨_, rfl, a, _, _, _, rfl, rfl, SqT.of ha2, atI_nat (j := 0) rfl, (by show 2 ≤ sizeLine; decide), fun p2 hp2 => ?_⟩
      refine ⟨p2, _, rfl, .inr (SqT.of upd_same), rfl, rfl, true, rfl, ?_⟩
      have s3 : Same H2 (upd H2 p2 (.tup [.str "put", .str "take"])) := same_new hp2
      have ha3 := s3 _ _ ha2
      refine ⟨_, rfl, _, _, rfl, .inr ⟨_, SqT.of ha3, rfl⟩, rfl, true, rfl, ?_⟩
      exact ⟨_, rfl, a, _, _, _, rfl, rfl, SqT.of ha3, atI_nat (j := 2) rfl, _, rfl, x, _, names, rfl, ⟨na, rfl, rd_same s3 hna2⟩, hok.2, fun H' s' => k _ ((s12.trans s3).trans s')⟩
    | take n x =>
      obtain rfl := hR
      refine iteND (ne_str (by show ("take" : Str) ≠ "add"; decide)) ?_
      refine ⟨_, rfl, a, _, _, _, rfl, rfl, SqT.of ha2, atI_nat (j := 0) rfl, (by show 2 ≤ sizeLine; decide), fun p2 hp2 => ?_⟩
      refine ⟨p2, _, rfl, .inr (SqT.of upd_same), rfl, rfl, true, rfl, ?_⟩
      have s3 : Same H2 (upd H2 p2 (.tup [.str "put", .str "take"])) := same_new hp2
      have ha3 := s3 _ _ ha2
      refine ⟨_, rfl, _, _, rfl, .inr ⟨_, SqT.of ha3, rfl⟩, rfl, true, rfl, ?_⟩
      exact ⟨_, rfl, a, _, _, _, rfl, rfl, SqT.of ha3, atI_nat (j := 2) rfl, _, rfl, x, _, names, rfl, ⟨na, rfl, rd_same s3 hna2⟩, hok.2, fun H' s' => k _ ((s12.trans s3).trans s')⟩
end
end Kt
namespace Kt
open PySem PySem.Spec PyProof.Rows L2
/-! ### NotPossible -/
structure NP (P : Program) (w : World) (K : PySem.W.Frag) (mg : Str → Option Value) (base : Heap) (C fI : Addr) : Prop where
  ox : OexC K C
  gC : mg "NotPossible" = some (.ref C)
  iC : PySem.W.findIn K (.ref C) "__init__" = some (some (.ref fI))
  tI : PySem.W.typeIn K (.ref fI) = some (.type "function")
  noW : PySem.W.findIn K (.ref C) "why" = some none
  xf : XfC K C
  te : PySem.W.exmOne K (.ref C) (.ref C) = some true
def whyF (w : Str) : List (Str × V) := [("why", .str w)]
/-- it leaves by NotPossible(w) -/
def Raised (C : Addr) (H : Hp) (w : Str) (E : XK) : Prop := ∀ d H', H' d = some (.xd (whyF w)) → Same H H' → E (.ref C) (some d) H'
theorem Raised.mono {C : Addr} {H H1 : Hp} {w : Str} {E : XK} (s : Same H H1) (h : Raised C H w E) : Raised C H1 w E := fun d H' e q => h d H' e (s.trans q)
def spNPinit (C : Addr) : Sp := fun vs H Q _ => ∃ a x, vs = [.ref a, .str x] ∧ H a = some (exo a C none) ∧ ∀ dx, H dx = none → dx ≠ a → Q .non (upd (upd H dx (exd dx (whyF x))) a (exo a C (some dx)))
section
variable {P : Program} {w : World} {K : PySem.W.Frag} {mg : Str → Option Value} {base : Heap}
theorem scNPinit : FnScope ["self", "why"] ["self", "why"] (defScope sNPinit) := ⟨rfl, rfl, rfl, by decide +kernel, rfl, by decide +kernel, by decide +kernel⟩
theorem ok_NPinit {f C : Addr} {fd : FuncData} (F : Fun K "__init__" "NotPossible.__init__" sNPinit f fd) (T : NP P w K mg base C f) : FnOk P w K mg base CX0 1 f fd ["self", "why"] (spNPinit C) := by
  refine F.ok scNPinit (fun vs H Q E h => ?_) (fun cdv A outer s H vs Q E hr h => ?_)
  · obtain ⟨a, x, rfl, _⟩ := h
    rfl
  · obtain ⟨a, x, rfl, ha, k⟩ := h
    refine ⟨_, pss_one (ps_ost (pv 0) (pv 1)), ?_⟩
    exact ⟨_, rfl, _, rfl, a, C, rfl, T.ox, T.noW, .inl ⟨ha, fun dx h1 h2 => k dx h1 h2⟩⟩
/-- raise NotPossible("..") -/
def tNP (C : Addr) (x : Str) (W : WX) : TS := fun _ σ H => ∀ d H', H' d = some (.xd (whyF x)) → Same H H' → W (.ref C) (some d) σ H'
theorem raise_np {X : Cx} {C fI : Addr} {fd : FuncData} {x : Str} {j : Nat} {p ps pos pos2 : Pos} {W : WX} (hc : X.calm = true) (tk : Takes X W) (T : NP X.prog X.w X.K X.mg X.base C fI) (G : FnOk X.prog X.w X.K X.mg X.base CX0 1 fI fd ["self", "why"] (spNPinit C)) (hr : Room 2 X.A)
    (hb : Binds X.K fd ["self", "why"] []) (hg : Gl X "NotPossible" := by rfl) (he : starEach (.Constant (.str x) j ps :: []) X.env = (false, eval (.Constant (.str x) j ps) X.env) :: starEach [] X.env := by rfl) (hpl : (backTo pos (starEach [] X.env)).any (·.1) = false := by rfl) :
    PS X (.Raise (some (.Call (.Name "NotPossible" p) [.Constant (.str x) j ps] [] pos)) none pos2) (tNP C x W) := by
  have base := ps_raise (pos := pos2) hc tk (pmk_oex (pos := pos) (p := p) (x := "NotPossible") T.ox T.iC T.tI G hr hb .nil pass0 hg T.gC (pa_cons pe_str pa_nil he) (by decide) he hpl)
  refine ⟨fun pins s σ H D I h => base.run pins s σ H D I ?_⟩
  have h : ∀ d H', H' d = some (.xd (whyF x)) → Same H H' → W (.ref C) (some d) σ H' := h
  refine ⟨by show 1 ≤ 1000; decide, fun a ha => ⟨a, x, rfl, upd_same, fun dx h1 h2 => ⟨rfl, dx, whyF x, upd_same, ?_, ?_, ?_⟩⟩⟩
  · rw [upd_ne h2, upd_same]
  · rw [upd_ne h2] at h1
    exact h1
  · have h1' : H dx = none := by
      rw [upd_ne h2] at h1
      exact h1
    refine h dx _ upd_same fun b o e => ?_
    have nb : b ≠ a := ne_of_none e ha
    have nd : b ≠ dx := ne_of_none e h1'
    rw [upd_ne nd, del_ne nb, upd_ne nb, upd_ne nd, upd_ne nb]
    exact e
/-! ### changed -/
def spChanged (C : Addr) : Sp := fun vs H Q E => ∃ x mv ms e, vs = [.str x, mv, .str e] ∧ StrT H mv ms ∧ ms.length ≤ 40 ∧
  (x = "put" → (e ∈ ms → Raised C H "there" E) ∧ (e ∉ ms → ∀ v ms' H', ms'.Perm (ms ++ [e]) → StrT H' v ms' → Same H H' → Q v H')) ∧
  (x ≠ "put" → (e ∉ ms → Raised C H "not there" E) ∧ (e ∈ ms → ∀ v H', StrT H' v (ms.filter (· ≠ e)) → Same H H' → Q v H'))
theorem filter_more {p : Str → Bool} {l : List Str} {i : Nat} {x : Str} (h : l[i]? = some x) : (l.take (i + 1)).filter p = (l.take i).filter p ++ (if p x then [x] else []) := by
  rw [take_more h, List.filter_append]
  congr 1
  by_cases e : p x = true
  · rw [if_pos e, List.filter_cons_of_pos e]
    rfl
  · rw [if_neg e, List.filter_cons_of_neg e]
    rfl
theorem cat_any {H : Hp} {a b : Addr} {xs ys : List V} {Q : VK} (ha : H a = some (.tup xs)) (hb : H b = some (.tup ys)) (hl : xs.length + ys.length ≤ 1000) (k : ∀ p H', H' p = some (.tup (xs ++ ys)) → Same H H' → Q (.ref p) H') : rCatA K (.ref a) (.ref b) H Q := by
  refine ⟨a, b, xs, ys, rfl, rfl, SqT.of ha, SqT.of hb, le_line hl, fun e => ?_, fun _ e => ?_, fun _ _ p hp => ?_⟩
  · exact k b H (by rw [hb, e]; rfl) (Same.refl _)
  · exact k a H (by rw [ha, e, List.append_nil]) (Same.refl _)
  · exact k p _ upd_same (same_new hp)
theorem scChanged : FnScope ["word", "members", "element", "one"] ["word", "members", "element"] (defScope sChanged) := ⟨rfl, rfl, rfl, by decide +kernel, rfl, by decide +kernel, by decide +kernel⟩
theorem ok_changed {f C fI : Addr} {fd fdI : FuncData} (F : Fun K "changed" "changed" sChanged f fd) (B : Blt mg) (T : NP P w K mg base C fI) (G : FnOk P w K mg base CX0 1 fI fdI ["self", "why"] (spNPinit C)) (bI : Binds K fdI ["self", "why"] []) :
    FnOk P w K mg base (L2.CX P w) 3 f fd ["word", "members", "element"] (spChanged C) := by
  refine F.okX scChanged (fun vs H Q E h => ?_) (fun cdv A outer s H vs Q E hr h => ?_)
  · obtain ⟨x, mv, ms, e, rfl, _⟩ := h
    rfl
  · obtain ⟨x, mv, ms, e, rfl, ⟨a, rfl, ha⟩, hl, kp, kt⟩ := h
    refine ⟨_, pss_cons (ps_if (pt_cmpR op_eq (pv 0) pe_str (nomark _))
        (pss_cons (ps_if (pt_cmpR op_in_seq (pv 2) (pv 1) (by rfl)) (pss_one (raise_np (W := fun cls d _ H' => E cls d H') rfl (takes_of rfl rfl rfl rfl) T G hr bI)) pss_nil)
          (pss_one (ps_ret (pe_callTy call_tuple_of (by rfl) B.tuple boot_tuple (pa_cons (pe_callB cr_sortedST (by rfl) B.sorted boot_sorted (pa_cons (pe_op op_catA (pv 1) (pe_tup (pa_cons (pv 2) pa_nil))) pa_nil)) pa_nil))))) pss_nil)
      (pss_cons (ps_if (pt_cmpR op_notIn_seq (pv 2) (pv 1) (by rfl)) (pss_one (raise_np (W := fun cls d _ H' => E cls d H') rfl (takes_of rfl rfl rfl rfl) T G hr bI)) pss_nil)
        (pss_one (ps_ret (pe_callTy call_tuple_of (by rfl) B.tuple boot_tuple (pa_cons
          (pe_lc (own := [("one", 3)]) (g := gName 3) (by rfl) scChanged.nd (pi_tup (pv 1)) (blkOk_by (own := [("one", 3)]) (N := ["word", "members", "element", "one"]) (sc := defScope sChanged) (by decide +kernel))
            (fun _ _ _ _ _ => pg_name (i := 3) scChanged.nd rfl (Or.inl rfl)) (fun _ _ _ _ _ => pts_one (pt_cmpR op_ne (pv 3) (pv 2) (nomark _)))
            (fun _ _ _ _ _ => pv 3)) pa_nil))))), ?_⟩
    refine ⟨_, rfl, rfl, _, rfl, ?_⟩
    by_cases hx : x = "put"
    · obtain ⟨k1, k2⟩ := kp hx
      refine iteD (by rw [hx]) ?_
      refine ⟨_, rfl, _, rfl, a, _, rfl, .inr (SqT.of ha), rfl, flat_strs ms, decide (e ∈ ms), by rw [inV_str]; rfl, ?_⟩
      by_cases he : e ∈ ms
      · refine iteD he ?_
        exact fun d H' q s' => k1 he d H' q s'
      · refine iteND he ?_
        refine ⟨_, rfl, _, rfl, (by show 1 ≤ sizeLine; decide), fun p hp => ?_⟩
        have s1 : Same H (upd H p (.tup [.str e])) := same_new hp
        refine cat_any (xs := ms.map V.str) (ys := [.str e]) (s1 _ _ ha) upd_same (by rw [List.length_map]; show ms.length + 1 ≤ 1000; omega) fun q H' hq s' => ?_
        have hq' : H' q = some (.tup ((ms ++ [e]).map V.str)) := by rw [hq, List.map_append]; rfl
        refine ⟨q, ms ++ [e], rfl, SqT.of hq', by rw [List.length_append]; show ms.length + 1 < 64; omega, fun ys D hp' hD => ?_⟩
        refine ⟨D, ys.map V.str, rfl, .inl ⟨SqL.of upd_same, fun l hl' => ?_⟩⟩
        exact k2 he _ ys _ hp' ⟨l, rfl, upd_same⟩ ((s1.trans s').trans ((same_new hD).trans (same_new hl')))
    · obtain ⟨k1, k2⟩ := kt hx
      refine iteND (ne_str hx) ?_
      refine ⟨_, rfl, _, rfl, a, _, rfl, .inr (SqT.of ha), rfl, flat_strs ms, !decide (e ∈ ms), by rw [inV_str]; rfl, ?_⟩
      by_cases he : e ∈ ms
      · rw [decide_eq_true he]
        refine ⟨_, rfl, a, rfl, ⟨_, SqT.of ha⟩, fun D hD => lc_it (walk_tup (K := K) (a := a) (xs := ms.map V.str)) (fun i H' => Same H H' ∧ H' D = some (.lst (((ms.take i).filter (· ≠ e)).map V.str))) ⟨same_new hD, upd_same⟩ (fun i H' _ p => SqT.of (p.1 _ _ ha)) ?_ ?_⟩
        · rintro i y H' H'' hi ⟨s', hD'⟩ ⟨rfl, hy⟩
          obtain ⟨x', hx', rfl⟩ := str_at hy
          have hi' : i < ms.length := by rw [List.length_map] at hi; exact hi
          refine ⟨rfl, _, rfl, _, rfl, rfl, _, rfl, ?_⟩
          by_cases hxe : x' = e
          · subst hxe
            rw [decide_eq_true rfl]
            refine ⟨s', ?_⟩
            rw [filter_more hx']
            simp only [ne_eq, not_true_eq_false, decide_false, Bool.false_eq_true, if_false, List.append_nil]
            exact hD'
          · rw [decide_eq_false (ne_str hxe)]
            refine ⟨_, rfl, _, hD', ?_, same_upd hD s', ?_⟩
            · rw [List.length_map]
              exact lt_line (Nat.le_trans (List.length_filter_le _ _) (by rw [List.length_take]; omega))
            · rw [upd_same, filter_more hx']
              simp only [ne_eq, hxe, not_false_eq_true, decide_true, if_true, List.map_append, List.map_cons, List.map_nil]
        · rintro H' ⟨s', hD'⟩
          rw [List.length_map, List.take_length] at hD'
          refine ⟨D, _, rfl, .inl ⟨SqL.of hD', fun l hl' => ?_⟩⟩
          exact k2 he _ _ ⟨l, rfl, upd_same⟩ (s'.trans (same_new hl'))
      · rw [decide_eq_false he]
        exact fun d H' q s' => k1 he d H' q s'
end
end Kt
namespace Kt
open PySem PySem.Spec PyProof.Rows L2
/-! ### Paired -/
theorem paired_get {α : Type} {R : V → α → Prop} : ∀ {vs : List V} {S : List α} {i : Nat} {v : V}, Paired R vs S → vs[i]? = some v → ∃ p, S[i]? = some p ∧ R v p
  | _, _, _, _, .nil, e => by simp at e
  | _, _, 0, _, .cons r _, e => by
    have e' := Option.some.inj e
    subst e'
    exact ⟨_, rfl, r⟩
  | _, _, i + 1, _, .cons _ t, e => paired_get (i := i) t e
theorem paired_get' {α : Type} {R : V → α → Prop} : ∀ {vs : List V} {S : List α} {i : Nat} {p : α}, Paired R vs S → S[i]? = some p → ∃ v, vs[i]? = some v ∧ R v p
  | _, _, _, _, .nil, e => by simp at e
  | _, _, 0, _, .cons r _, e => by
    have e' := Option.some.inj e
    subst e'
    exact ⟨_, rfl, r⟩
  | _, _, i + 1, _, .cons _ t, e => paired_get' (i := i) t e
theorem paired_len {α : Type} {R : V → α → Prop} {vs : List V} {S : List α} (h : Paired R vs S) : vs.length = S.length := Paired.length h
theorem paired_take {α : Type} {R : V → α → Prop} : ∀ {vs : List V} {S : List α} (n : Nat), Paired R vs S → Paired R (vs.take n) (S.take n)
  | _, _, 0, _ => .nil
  | _, _, _ + 1, .nil => .nil
  | _, _, n + 1, .cons r t => .cons r (paired_take n t)
theorem paired_drop {α : Type} {R : V → α → Prop} : ∀ {vs : List V} {S : List α} (n : Nat), Paired R vs S → Paired R (vs.drop n) (S.drop n)
  | _, _, 0, h => h
  | _, _, _ + 1, .nil => .nil
  | _, _, n + 1, .cons _ t => paired_drop n t
theorem paired_app {α : Type} {R : V → α → Prop} : ∀ {vs ws : List V} {S T : List α}, Paired R vs S → Paired R ws T → Paired R (vs ++ ws) (S ++ T)
  | _, _, _, _, .nil, h => h
  | _, _, _, _, .cons r t, h => .cons r (paired_app t h)
/-! ### the places of a name -/
def fnd (n : Str) (S : Sets) (i : Nat) : List Nat := (List.range i).filter fun j => decide ((S[j]?).map Prod.fst = some n)
theorem fnd_more (n : Str) (S : Sets) (i : Nat) : fnd n S (i + 1) = fnd n S i ++ (if (S[i]?).map Prod.fst = some n then [i] else []) := by
  unfold fnd
  rw [List.range_succ, List.filter_append]
  congr 1
  by_cases e : (S[i]?).map Prod.fst = some n
  · rw [if_pos e, List.filter_cons_of_pos (by simpa using e)]
    rfl
  · rw [if_neg e, List.filter_cons_of_neg (by simpa using e)]
    rfl
theorem fnd_len (n : Str) (S : Sets) (i : Nat) : (fnd n S i).length ≤ i := by
  unfold fnd
  exact Nat.le_trans (List.length_filter_le _ _) (by rw [List.length_range]; exact Nat.le_refl _)
theorem fnd_head {n : Str} {S : Sets} {j : Nat} {r : List Nat} (h : fnd n S S.length = j :: r) : ∃ ms, S[j]? = some (n, ms) ∧ j < S.length := by
  have hm : j ∈ fnd n S S.length := by rw [h]; exact List.mem_cons_self
  unfold fnd at hm
  obtain ⟨h1, h2⟩ := List.mem_filter.mp hm
  have hj := List.mem_range.mp h1
  have h2' : (S[j]?).map Prod.fst = some n := of_decide_eq_true h2
  obtain ⟨p, hp⟩ : ∃ p, S[j]? = some p := ⟨S[j], List.getElem?_eq_getElem hj⟩
  rw [hp] at h2'
  have e : p.1 = n := Option.some.inj h2'
  exact ⟨p.2, by rw [hp, ← e], hj⟩
abbrev natsV (l : List Nat) : List V := l.map fun (j : Nat) => V.int (j : Int)
/-! ### slices of tuples, either way -/
section
variable {K : PySem.W.Frag}
theorem slice_any {H : Hp} {a : Addr} {xs : List V} {lo hi : Option Int} {Q : VK} (ha : H a = some (.tup xs)) (k : ∀ p H', H' p = some (.tup (cutV xs lo hi)) → Same H H' → Q (.ref p) H') : rSlA K (.ref a) lo hi H Q := by
  refine ⟨a, xs, rfl, SqT.of ha, fun ⟨e1, e2⟩ => ?_, fun _ p hp => k p _ upd_same (same_new hp)⟩
  refine k a H ?_ (Same.refl _)
  rw [ha]
  unfold cutV
  rw [e1, e2]
  simp
theorem cut_to {xs : List V} {j : Nat} (h : j ≤ xs.length) : cutV xs none (some (j : Int)) = xs.take j := by
  unfold cutV
  rw [HT.sIx_none, HT.sIx_nat, Nat.min_eq_left h]
  simp
theorem cut_from {xs : List V} {j : Nat} (h : j ≤ xs.length) : cutV xs (some (j : Int)) none = xs.drop j := by
  unfold cutV
  rw [HT.sIx_none, HT.sIx_nat, Nat.min_eq_left h]
  rw [List.take_of_length_le (by rw [List.length_drop]; exact Nat.le_refl _)]
end
/-! ### with_command -/
def spWith (C : Addr) : Sp := fun vs H Q E => ∃ sv cv S c, vs = [sv, cv] ∧ SetsT H sv S ∧ CmdV H cv c ∧ S.length ≤ 8 ∧ (∀ p ∈ S, p.2.length ≤ 40) ∧
  match c with
  | .add n ch => ch.length ≤ 40 ∧ (fnd n S S.length ≠ [] → Raised C H "exists" E) ∧ (fnd n S S.length = [] → 8 ≤ S.length → Raised C H "many" E) ∧
      (fnd n S S.length = [] → S.length < 8 → ∀ v ch' H', ch'.Perm ch → SetsT H' v (S ++ [(n, ch')]) → Same H H' → Q v H')
  | .drop n => (fnd n S S.length = [] → Raised C H "missing" E) ∧ ∀ j r, fnd n S S.length = j :: r → ∀ v H', SetsT H' v (S.take j ++ S.drop (j + 1)) → Same H H' → Q v H'
  | .put n e => (fnd n S S.length = [] → Raised C H "missing" E) ∧ ∀ j r ms, fnd n S S.length = j :: r → S[j]? = some (n, ms) →
      (e ∈ ms → Raised C H "there" E) ∧ (e ∉ ms → ∀ v ms' H', ms'.Perm (ms ++ [e]) → SetsT H' v ((S.take j ++ [(n, ms')]) ++ S.drop (j + 1)) → Same H H' → Q v H')
  | .take n e => (fnd n S S.length = [] → Raised C H "missing" E) ∧ ∀ j r ms, fnd n S S.length = j :: r → S[j]? = some (n, ms) →
      (e ∉ ms → Raised C H "not there" E) ∧ (e ∈ ms → ∀ v H', SetsT H' v ((S.take j ++ [(n, ms.filter (· ≠ e))]) ++ S.drop (j + 1)) → Same H H' → Q v H')
section
variable {P : Program} {w : World} {K : PySem.W.Frag} {mg : Str → Option Value} {base : Heap}
abbrev nWith : List Str := ["sets", "command", "word", "name", "at", "found", "entry"]
abbrev ownWith : List (Str × Nat) := [("at", 4), ("entry", 6)]
theorem scWith : FnScope nWith ["sets", "command"] (defScope sWith) := ⟨rfl, rfl, rfl, by decide +kernel, rfl, by decide +kernel, by decide +kernel⟩
theorem ok_with {f C fI : Addr} {fd fdI : FuncData} (F : Fun K "with_command" "with_command" sWith f fd) (B : Blt mg) (T : NP P w K mg base C fI) (G : FnOk P w K mg base CX0 1 fI fdI ["self", "why"] (spNPinit C)) (bI : Binds K fdI ["self", "why"] [])
    (HC : Has P w K mg base (L2.CX P w) 3 "changed" ["word", "members", "element"] (spChanged C)) :
    FnOk P w K mg base (L2.CX P w) 4 f fd ["sets", "command"] (spWith C) := by
  obtain ⟨fC, fdC, GC, mC, kC, bC⟩ := HC
  obtain ⟨tM, mM⟩ := B.mostSets
  refine F.okX scWith (fun vs H Q E h => ?_) (fun cdv A outer s H vs Q E hr h => ?_)
  · obtain ⟨sv, cv, S, c, rfl, _⟩ := h
    rfl
  · obtain ⟨sv, cv, S, c, rfl, ⟨a, svs, rfl, ha, hS⟩, hc, hl8, hl40, kk⟩ := h
    obtain ⟨ca, r, rfl, hca, hR⟩ := hc.open_
    have hr2 : Room 2 _ := hr.mono (by decide)
    refine ⟨_, pss_cons (ps_asg (pe_slice sl_tupA (pv 1) po_none (po_some pe_int)) (pg_tup (by rfl) (pgs_cons (pg_name (i := 2) scWith.nd rfl (Or.inl rfl)) (pgs_cons (pg_name (i := 3) scWith.nd rfl (Or.inr rfl)) pgs_nil))))
      (pss_cons (ps_setLc (i := 5) (own := ownWith) (g := gTup K 2 (gCons (gName 4) (gCons (gName 6) gNil))) (by rfl) scWith.nd rfl rfl (sw_true rfl rfl rfl (by decide +kernel)) (pi_enumT (by rfl) B.enumerate (pa_cons (pv 0) pa_nil))
          (blkOk_by (own := ownWith) (N := nWith) (sc := defScope sWith) (by decide +kernel))
          (fun _ _ _ _ _ => pg_tup (by rfl) (pgs_cons (pg_name (i := 4) scWith.nd rfl (Or.inl rfl)) (pgs_cons (pg_name (i := 6) scWith.nd rfl (Or.inl rfl)) pgs_nil)))
          (fun _ _ _ _ _ => pts_one (pt_cmpR op_eq (pe_ix (ix_tupK K) (pv 6) pe_int (fun _ _ => rfl)) (pv 3) (nomark _)))
          (fun _ _ _ _ _ => pv 4))
      (pss_cons (ps_if (pt_cmpR op_eq (pv 2) pe_str (nomark _)) (pss_cons (ps_if (pt_truth (pv 5) (by intro _; rfl)) (pss_one (raise_np (W := fun cls d _ H' => E cls d H') rfl (takes_of rfl rfl rfl rfl) T G hr2 bI)) pss_nil)
      (pss_cons (ps_if (pt_cmpR op_ge (pe_callB call_len (by rfl) B.len PySem.boot_len (pa_cons (pv 0) pa_nil)) (pe_glob (v := .int 8) (by rfl) mM ⟨_, rfl⟩) (nomark _)) (pss_one (raise_np (W := fun cls d _ H' => E cls d H') rfl (takes_of rfl rfl rfl rfl) T G hr2 bI)) pss_nil)
      (pss_one (ps_ret (pe_op op_catA (pv 0) (pe_tup (pa_cons (pe_tup (pa_cons (pv 3) (pa_cons (pe_callTy call_tuple_of (by rfl) B.tuple boot_tuple (pa_cons (pe_callB cr_sortedST (by rfl) B.sorted boot_sorted (pa_cons (pe_ix ix_tup (pv 1) pe_int (fun _ _ => rfl)) pa_nil)) pa_nil)) pa_nil))) pa_nil))))))) pss_nil)
      (pss_cons (ps_if (pt_not (pt_truth (pv 5) (by intro _; rfl))) (pss_one (raise_np (W := fun cls d _ H' => E cls d H') rfl (takes_of rfl rfl rfl rfl) T G hr2 bI)) pss_nil)
      (pss_cons (ps_set (i := 4) scWith.nd rfl (Or.inl rfl) (pe_ix ix_list (pv 5) pe_int (fun _ _ => rfl)))
      (pss_cons (ps_if (pt_cmpR op_eq (pv 2) pe_str (nomark _)) (pss_one (ps_ret (pe_op op_catA (pe_slice sl_tupA (pv 0) po_none (po_some (pv 4))) (pe_slice sl_tupA (pv 0) (po_some (pe_op op_add (pv 4) pe_int)) po_none)))) pss_nil)
      (pss_one (ps_ret (pe_op op_catA (pe_op op_catA (pe_slice sl_tupA (pv 0) po_none (po_some (pv 4)))
          (pe_tup (pa_cons (pe_tup (pa_cons (pv 3) (pa_cons (pe_call GC hr (by rfl) mC kC bC .nil (passes_call (takes_of rfl rfl rfl rfl) (fun _ _ _ _ z => z))
            (pa_cons (pv 2) (pa_cons (pe_ix ix_tup (pe_ix ix_tup (pv 0) (pv 4) (fun _ _ => rfl)) pe_int (fun _ _ => rfl)) (pa_cons (pe_ix ix_tup (pv 1) pe_int (fun _ _ => rfl)) pa_nil)))) pa_nil))) pa_nil)))
          (pe_slice sl_tupA (pv 0) (po_some (pe_op op_add (pv 4) pe_int)) po_none))))))))), ?_⟩
    -- word, name = command[:2]
    refine ⟨_, rfl, 2, rfl, slice_any hca fun p H1 hp s1 => ?_⟩
    have ec : cutV (V.str c.word :: V.str c.name :: r) none (some ((2 : Nat) : Int)) = [V.str c.word, V.str c.name] := cut_to (by show 2 ≤ r.length + 2; omega)
    have hp' : H1 p = some (.tup [V.str c.word, V.str c.name]) := by rw [hp]; exact congrArg (fun z => some (HO.tup z)) ec
    refine ⟨p, _, rfl, SqT.of hp', rfl, _, _, rfl, _, _, rfl, rfl, ?_⟩
    -- found
    have ha1 := s1 _ _ ha
    have hlen := paired_len hS
    refine ⟨_, rfl, a, _, rfl, SqT.of ha1, fun D hD => lc_it (walk_enumT (K := K) (a := a) (xs := svs)) (fun i H' => Same H1 H' ∧ H' D = some (.lst (natsV (fnd c.name S i)))) ⟨same_new hD, upd_same⟩ (fun i H' _ p => SqT.of (p.1 _ _ ha1)) ?_ ?_⟩
    · rintro i y H' H'' hi ⟨s', hD'⟩ ⟨Tt, x, yv, rfl, hT, rfl, hx, hy⟩
      obtain rfl := Option.some.inj hx
      obtain ⟨pp, hpp, pa, pq, rfl, h1, h2⟩ := paired_get hS hy
      have s'' : Same H' (upd H' Tt (.tup [.int (i : Nat), .ref pa])) := same_new hT
      have h1' := s'' _ _ (s' _ _ (s1 _ _ h1))
      refine ⟨Tt, _, rfl, SqT.of upd_same, rfl, _, _, rfl, _, _, rfl, rfl, rfl, ?_⟩
      refine ⟨_, rfl, pa, _, _, _, rfl, rfl, SqT.of h1', atI_nat (j := 0) rfl, _, rfl, rfl, _, rfl, ?_⟩
      have hD2 := s'' _ _ hD'
      have nD : D ≠ Tt := ne_of_none hD' hT
      by_cases hn : pp.1 = c.name
      · rw [decide_eq_true (show V.str pp.1 = V.str c.name by rw [hn])]
        refine ⟨_, rfl, _, hD2, ?_, ?_, ?_⟩
        · rw [List.length_map]
          exact lt_line (Nat.le_trans (fnd_len _ _ _) (by rw [hlen] at hi; omega))
        · exact same_upd hD (s'.trans s'')
        · rw [upd_same, fnd_more, if_pos (by rw [hpp]; exact congrArg some hn)]
          unfold natsV
          rw [List.map_append]
          rfl
      · rw [decide_eq_false (ne_str hn)]
        refine ⟨s'.trans s'', ?_⟩
        rw [fnd_more, if_neg (by rw [hpp]; exact fun z => hn (Option.some.inj z)), List.append_nil]
        exact hD2
    · rintro H2 ⟨s2, hD2⟩
      rw [hlen] at hD2
      have s12 := s1.trans s2
      have ha2 := s12 _ _ ha
      have hca2 := s12 _ _ hca
      have hS2 := pairs_same s12 hS
      refine ⟨_, rfl, rfl, _, rfl, ?_⟩
      cases c with
      | add n ch =>
        obtain ⟨q, rfl, hq⟩ := hR
        obtain ⟨hch, k1, k2, k3⟩ := kk
        have hD2 : H2 D = some (.lst (natsV (fnd n S S.length))) := hD2
        refine iteD rfl ?_
        rcases hfl : fnd n S S.length with _ | ⟨j, rr⟩
        · rw [hfl] at hD2
          refine ⟨_, rfl, false, .inl ⟨_, SqL.of hD2, rfl⟩, ?_⟩
          refine ⟨_, rfl, _, _, rfl, .inr ⟨_, SqT.of ha2, rfl⟩, _, _, rfl, rfl, _, rfl, ?_⟩
          by_cases h8 : 8 ≤ S.length
          · refine iteD (by rw [hlen]; omega) ?_
            exact fun d H' q s' => k2 hfl h8 d H' q (s12.trans s')
          · refine iteND (by rw [hlen]; omega) ?_
            obtain ⟨qa, rfl, hqa⟩ := hq
            refine ⟨_, rfl, _, rfl, _, rfl, ca, _, _, _, rfl, rfl, SqT.of hca2, atI_nat (j := 2) rfl, qa, ch, rfl, SqT.of (s12 _ _ hqa), by omega, fun ys L hperm hL => ?_⟩
            refine ⟨L, _, rfl, .inl ⟨SqL.of upd_same, fun l hl => ⟨by show 2 ≤ sizeLine; decide, fun p2 hp2 => ⟨by show 1 ≤ sizeLine; decide, fun p3 hp3 => ?_⟩⟩⟩⟩
            have t1 := same_new (o := HO.lst (ys.map V.str)) hL
            have t2 := same_new (o := HO.tup (ys.map V.str)) hl
            have t3 := same_new (o := HO.tup [.str n, .ref l]) hp2
            have t4 := same_new (o := HO.tup [.ref p2]) hp3
            refine cat_any (xs := svs) (ys := [.ref p2]) (t4 _ _ (t3 _ _ (t2 _ _ (t1 _ _ ha2)))) upd_same (by rw [hlen]; show S.length + 1 ≤ 1000; omega) fun p4 H4 hp4 t5 => ?_
            have tA := s12.trans ((t1.trans t2).trans ((t3.trans t4).trans t5))
            exact k3 hfl (by omega) _ ys H4 hperm ⟨p4, _, rfl, hp4, paired_app (pairs_same tA hS) (.cons ⟨p2, .ref l, rfl, t5 _ _ (t4 _ _ upd_same), l, rfl, t5 _ _ (t4 _ _ (t3 _ _ upd_same))⟩ .nil)⟩ tA
        · rw [hfl] at hD2
          refine ⟨_, rfl, true, .inl ⟨_, SqL.of hD2, rfl⟩, ?_⟩
          exact fun d H' q s' => k1 (by rw [hfl]; exact fun z => (nomatch z)) d H' q (s12.trans s')
      | drop n =>
        obtain rfl := hR
        obtain ⟨k1, k2⟩ := kk
        have hD2 : H2 D = some (.lst (natsV (fnd n S S.length))) := hD2
        refine iteND (ne_str (by show ("drop" : Str) ≠ "add"; decide)) ?_
        rcases hfl : fnd n S S.length with _ | ⟨j, rr⟩
        · rw [hfl] at hD2
          refine ⟨_, rfl, false, .inl ⟨_, SqL.of hD2, rfl⟩, ?_⟩
          exact fun d H' q s' => k1 hfl d H' q (s12.trans s')
        · rw [hfl] at hD2
          obtain ⟨ms, hj, hjl⟩ := fnd_head hfl
          refine ⟨_, rfl, true, .inl ⟨_, SqL.of hD2, rfl⟩, ?_⟩
          refine ⟨_, rfl, D, _, 0, .int (j : Nat), rfl, rfl, SqL.of hD2, atI_nat (j := 0) rfl, ?_⟩
          refine ⟨_, rfl, rfl, _, rfl, ?_⟩
          refine iteD rfl ?_
          refine ⟨_, rfl, _, rfl, _, rfl, slice_any ha2 fun pa Ha hpa sa => ?_⟩
          rw [cut_to (by rw [hlen]; omega)] at hpa
          refine ⟨_, rfl, _, rfl, _, _, rfl, rfl, _, rfl, ?_⟩
          unfold tNoPart
          refine slice_any (sa _ _ ha2) fun pb Hb hpb sb => ?_
          rw [show (j : Int) + 1 = ((j + 1 : Nat) : Int) from by omega, cut_from (by rw [hlen]; omega)] at hpb
          refine cat_any (sb _ _ hpa) hpb (by rw [List.length_take, List.length_drop]; omega) fun p4 H4 hp4 t5 => ?_
          have tA := s12.trans ((sa.trans sb).trans t5)
          exact k2 j rr hfl _ H4 ⟨p4, _, rfl, hp4, paired_app (paired_take j (pairs_same tA hS)) (paired_drop (j + 1) (pairs_same tA hS))⟩ tA
      | put n x =>
        obtain rfl := hR
        obtain ⟨k1, k2⟩ := kk
        have hD2 : H2 D = some (.lst (natsV (fnd n S S.length))) := hD2
        refine iteND (ne_str (by show ("put" : Str) ≠ "add"; decide)) ?_
        rcases hfl : fnd n S S.length with _ | ⟨j, rr⟩
        · rw [hfl] at hD2
          refine ⟨_, rfl, false, .inl ⟨_, SqL.of hD2, rfl⟩, ?_⟩
          exact fun d H' q s' => k1 hfl d H' q (s12.trans s')
        · rw [hfl] at hD2
          obtain ⟨ms, hj, hjl⟩ := fnd_head hfl
          obtain ⟨kr, kq⟩ := k2 j rr ms hfl hj
          obtain ⟨vj, hvj, pj, qj, rfl, hp1, hq1⟩ := paired_get' hS2 hj
          refine ⟨_, rfl, true, .inl ⟨_, SqL.of hD2, rfl⟩, ?_⟩
          refine ⟨_, rfl, D, _, 0, .int (j : Nat), rfl, rfl, SqL.of hD2, atI_nat (j := 0) rfl, ?_⟩
          refine ⟨_, rfl, rfl, _, rfl, ?_⟩
          refine iteND (ne_str (by show ("put" : Str) ≠ "drop"; decide)) ?_
          refine ⟨_, rfl, _, rfl, _, rfl, slice_any ha2 fun pa Ha hpa sa => ?_⟩
          rw [cut_to (by rw [hlen]; omega)] at hpa
          have hcaA := sa _ _ hca2
          refine ⟨_, rfl, _, rfl, _, rfl, _, rfl, a, _, _, _, rfl, rfl, SqT.of (sa _ _ ha2), atI_nat hvj, pj, _, _, _, rfl, rfl, SqT.of (sa _ _ hp1), atI_nat (j := 1) rfl, _, rfl, ca, _, _, _, rfl, rfl, SqT.of hcaA, atI_nat (j := 2) rfl, ?_⟩
          have go : ∀ v ms' H', StrT H' v ms' → Same Ha H' → (∀ v H'', SetsT H'' v ((S.take j ++ [(n, ms')]) ++ S.drop (j + 1)) → Same H H'' → Q v H'') → ([V.str n, v].length ≤ sizeLine ∧ ∀ p2, H' p2 = none → ([V.ref p2].length ≤ sizeLine ∧ ∀ p3, upd H' p2 (.tup [.str n, v]) p3 = none →
              rCatA K (.ref pa) (.ref p3) (upd (upd H' p2 (.tup [.str n, v])) p3 (.tup [.ref p2])) fun x Hx => tSl (rSlA K) (tVar 0) (tPart (tOp (rI0 fun i j => V.int (i + j)) (tVar 4) (tC (V.int 1)))) tNoPart [some (.ref a), some (.ref ca), some (.str "put"), some (.str n), some (.int (j : Nat)), some (.ref D), none] Hx fun y Hy => rCatA K x y Hy Q)) := by
            intro v ms' H' hv sv kv
            refine ⟨by show 2 ≤ sizeLine; decide, fun p2 hp2 => ⟨by show 1 ≤ sizeLine; decide, fun p3 hp3 => ?_⟩⟩
            have s3 := same_new (o := HO.tup [.str n, v]) hp2
            have s4 := same_new (o := HO.tup [.ref p2]) hp3
            have s34 := s3.trans s4
            refine cat_any (xs := svs.take j) (ys := [.ref p2]) (s34 _ _ (sv _ _ hpa)) upd_same (by rw [List.length_take]; show min j svs.length + 1 ≤ 1000; omega) fun p4 H4 hp4 s5 => ?_
            have sA := (sa.trans sv).trans (s34.trans s5)
            refine ⟨_, rfl, _, rfl, _, _, rfl, rfl, _, rfl, ?_⟩
            unfold tNoPart
            refine slice_any (sA _ _ ha2) fun p5 H5 hp5 s6 => ?_
            rw [show (j : Int) + 1 = ((j + 1 : Nat) : Int) from by omega, cut_from (by rw [hlen]; omega)] at hp5
            refine cat_any (s6 _ _ hp4) hp5 (by rw [List.length_append, List.length_take, List.length_drop]; show min j svs.length + 1 + _ ≤ 1000; omega) fun p6 H6 hp6 s7 => ?_
            have sB := s12.trans (sA.trans (s6.trans s7))
            have sC : Same (upd H' p2 (.tup [.str n, v])) H6 := s4.trans (s5.trans (s6.trans s7))
            refine kv _ _ ⟨p6, _, rfl, hp6, paired_app (paired_app (paired_take j (pairs_same sB hS)) (.cons ⟨p2, v, rfl, sC _ _ upd_same, hv.same (s3.trans sC)⟩ .nil)) (paired_drop (j + 1) (pairs_same sB hS))⟩ sB
          have sH : Same H Ha := s12.trans sa
          have hms : ms.length ≤ 40 := hl40 _ (List.mem_of_getElem? hj)
          refine ⟨_, _, ms, x, rfl, hq1.same sa, hms, fun _ => ⟨fun he => (kr he).mono sH, fun he v ms' H' hp' hv sv => go v ms' H' hv sv fun v2 H2' h2 s2' => kq he v2 ms' H2' hp' h2 s2'⟩, fun z => absurd rfl z⟩
      | take n x =>
        obtain rfl := hR
        obtain ⟨k1, k2⟩ := kk
        have hD2 : H2 D = some (.lst (natsV (fnd n S S.length))) := hD2
        refine iteND (ne_str (by show ("take" : Str) ≠ "add"; decide)) ?_
        rcases hfl : fnd n S S.length with _ | ⟨j, rr⟩
        · rw [hfl] at hD2
          refine ⟨_, rfl, false, .inl ⟨_, SqL.of hD2, rfl⟩, ?_⟩
          exact fun d H' q s' => k1 hfl d H' q (s12.trans s')
        · rw [hfl] at hD2
          obtain ⟨ms, hj, hjl⟩ := fnd_head hfl
          obtain ⟨kr, kq⟩ := k2 j rr ms hfl hj
          obtain ⟨vj, hvj, pj, qj, rfl, hp1, hq1⟩ := paired_get' hS2 hj
          refine ⟨_, rfl, true, .inl ⟨_, SqL.of hD2, rfl⟩, ?_⟩
          refine ⟨_, rfl, D, _, 0, .int (j : Nat), rfl, rfl, SqL.of hD2, atI_nat (j := 0) rfl, ?_⟩
          refine ⟨_, rfl, rfl, _, rfl, ?_⟩
          refine iteND (ne_str (by show ("take" : Str) ≠ "drop"; decide)) ?_
          refine ⟨_, rfl, _, rfl, _, rfl, slice_any ha2 fun pa Ha hpa sa => ?_⟩
          rw [cut_to (by rw [hlen]; omega)] at hpa
          have hcaA := sa _ _ hca2
          refine ⟨_, rfl, _, rfl, _, rfl, _, rfl, a, _, _, _, rfl, rfl, SqT.of (sa _ _ ha2), atI_nat hvj, pj, _, _, _, rfl, rfl, SqT.of (sa _ _ hp1), atI_nat (j := 1) rfl, _, rfl, ca, _, _, _, rfl, rfl, SqT.of hcaA, atI_nat (j := 2) rfl, ?_⟩
          have go : ∀ v ms' H', StrT H' v ms' → Same Ha H' → (∀ v H'', SetsT H'' v ((S.take j ++ [(n, ms')]) ++ S.drop (j + 1)) → Same H H'' → Q v H'') → ([V.str n, v].length ≤ sizeLine ∧ ∀ p2, H' p2 = none → ([V.ref p2].length ≤ sizeLine ∧ ∀ p3, upd H' p2 (.tup [.str n, v]) p3 = none →
              rCatA K (.ref pa) (.ref p3) (upd (upd H' p2 (.tup [.str n, v])) p3 (.tup [.ref p2])) fun x Hx => tSl (rSlA K) (tVar 0) (tPart (tOp (rI0 fun i j => V.int (i + j)) (tVar 4) (tC (V.int 1)))) tNoPart [some (.ref a), some (.ref ca), some (.str "take"), some (.str n), some (.int (j : Nat)), some (.ref D), none] Hx fun y Hy => rCatA K x y Hy Q)) := by
            intro v ms' H' hv sv kv
            refine ⟨by show 2 ≤ sizeLine; decide, fun p2 hp2 => ⟨by show 1 ≤ sizeLine; decide, fun p3 hp3 => ?_⟩⟩
            have s3 := same_new (o := HO.tup [.str n, v]) hp2
            have s4 := same_new (o := HO.tup [.ref p2]) hp3
            have s34 := s3.trans s4
            refine cat_any (xs := svs.take j) (ys := [.ref p2]) (s34 _ _ (sv _ _ hpa)) upd_same (by rw [List.length_take]; show min j svs.length + 1 ≤ 1000; omega) fun p4 H4 hp4 s5 => ?_
            have sA := (sa.trans sv).trans (s34.trans s5)
            refine ⟨_, rfl, _, rfl, _, _, rfl, rfl, _, rfl, ?_⟩
            unfold tNoPart
            refine slice_any (sA _ _ ha2) fun p5 H5 hp5 s6 => ?_
            rw [show (j : Int) + 1 = ((j + 1 : Nat) : Int) from by omega, cut_from (by rw [hlen]; omega)] at hp5
            refine cat_any (s6 _ _ hp4) hp5 (by rw [List.length_append, List.length_take, List.length_drop]; show min j svs.length + 1 + _ ≤ 1000; omega) fun p6 H6 hp6 s7 => ?_
            have sB := s12.trans (sA.trans (s6.trans s7))
            have sC : Same (upd H' p2 (.tup [.str n, v])) H6 := s4.trans (s5.trans (s6.trans s7))
            refine kv _ _ ⟨p6, _, rfl, hp6, paired_app (paired_app (paired_take j (pairs_same sB hS)) (.cons ⟨p2, v, rfl, sC _ _ upd_same, hv.same (s3.trans sC)⟩ .nil)) (paired_drop (j + 1) (pairs_same sB hS))⟩ sB
          have sH : Same H Ha := s12.trans sa
          have hms : ms.length ≤ 40 := hl40 _ (List.mem_of_getElem? hj)
          refine ⟨_, _, ms, x, rfl, hq1.same sa, hms, fun z => absurd z (by show ¬ ("take" : Str) = "put"; decide), fun _ => ⟨fun he => (kr he).mono sH, fun he v H' hv sv => go v _ H' hv sv fun v2 H2' h2 s2' => kq he v2 H2' h2 s2'⟩⟩
end
end Kt
namespace Kt
open PySem PySem.Spec PyProof.Rows L2
/-! ### what a command does: the word of its refusal, the sets behind it -/
def why (S : Sets) : Cmd → Str
  | .add n _ => if fnd n S S.length = [] then (if 8 ≤ S.length then "many" else "") else "exists"
  | .drop n => if fnd n S S.length = [] then "missing" else ""
  | .put n e => match fnd n S S.length with
    | [] => "missing"
    | j :: _ => match S[j]? with
      | some p => if e ∈ p.2 then "there" else ""
      | none => ""
  | .take n e => match fnd n S S.length with
    | [] => "missing"
    | j :: _ => match S[j]? with
      | some p => if e ∈ p.2 then "" else "not there"
      | none => ""
def After (S : Sets) (S' : Sets) : Cmd → Prop
  | .add n ch => ∃ ch', ch'.Perm ch ∧ S' = S ++ [(n, ch')]
  | .drop n => ∃ j r, fnd n S S.length = j :: r ∧ S' = S.take j ++ S.drop (j + 1)
  | .put n e => ∃ j r ms ms', fnd n S S.length = j :: r ∧ S[j]? = some (n, ms) ∧ ms'.Perm (ms ++ [e]) ∧ S' = (S.take j ++ [(n, ms')]) ++ S.drop (j + 1)
  | .take n e => ∃ j r ms, fnd n S S.length = j :: r ∧ S[j]? = some (n, ms) ∧ S' = (S.take j ++ [(n, ms.filter (· ≠ e))]) ++ S.drop (j + 1)
theorem str_ne {a b : String} (h : (Str.ofString a == Str.ofString b) = false) : ¬ (Str.ofString a = Str.ofString b) := by simpa using h
theorem with_of {C : Addr} {H : Hp} {sv cv : V} {S : Sets} {c : Cmd} {Q : VK} {E : XK} (hS : SetsT H sv S) (hc : CmdV H cv c) (h8 : S.length ≤ 8) (h40 : ∀ p ∈ S, p.2.length ≤ 40) (hch : ∀ n ch, c = .add n ch → ch.length ≤ 40)
    (kr : why S c ≠ "" → Raised C H (why S c) E) (kq : why S c = "" → ∀ S' v H', After S S' c → SetsT H' v S' → Same H H' → Q v H') : spWith C [sv, cv] H Q E := by
  refine ⟨sv, cv, S, c, rfl, hS, hc, h8, h40, ?_⟩
  cases c with
  | add n ch =>
    refine ⟨hch n ch rfl, fun h => ?_, fun h h' => ?_, fun h h' v ch' H' hp hs s => ?_⟩
    · have e : why S (.add n ch) = "exists" := if_neg h
      rw [← e]
      exact kr (by rw [e]; decide)
    · have e : why S (.add n ch) = "many" := by
        show (if _ then _ else _) = _
        rw [if_pos h, if_pos h']
      rw [← e]
      exact kr (by rw [e]; decide)
    · have e : why S (.add n ch) = "" := by
        show (if _ then _ else _) = _
        rw [if_pos h, if_neg (by omega)]
      exact kq e _ v H' ⟨ch', hp, rfl⟩ hs s
  | drop n =>
    refine ⟨fun h => ?_, fun j r h v H' hs s => ?_⟩
    · have e : why S (.drop n) = "missing" := if_pos h
      rw [← e]
      exact kr (by rw [e]; decide)
    · have e : why S (.drop n) = "" := if_neg (by rw [h]; exact fun z => (nomatch z))
      exact kq e _ v H' ⟨j, r, h, rfl⟩ hs s
  | put n x =>
    refine ⟨fun h => ?_, fun j r ms h hj => ⟨fun he => ?_, fun he v ms' H' hp hs s => ?_⟩⟩
    · have e : why S (.put n x) = "missing" := by unfold why; simp only [h]
      rw [← e]
      exact kr (by rw [e]; decide)
    · have e : why S (.put n x) = "there" := by unfold why; simp only [h, hj, if_pos he]
      rw [← e]
      exact kr (by rw [e]; decide)
    · have e : why S (.put n x) = "" := by unfold why; simp only [h, hj, if_neg he]
      exact kq e _ v H' ⟨j, r, ms, ms', h, hj, hp, rfl⟩ hs s
  | take n x =>
    refine ⟨fun h => ?_, fun j r ms h hj => ⟨fun he => ?_, fun he v H' hs s => ?_⟩⟩
    · have e : why S (.take n x) = "missing" := by unfold why; simp only [h]
      rw [← e]
      exact kr (by rw [e]; decide)
    · have e : why S (.take n x) = "not there" := by unfold why; simp only [h, hj, if_neg he]
      rw [← e]
      exact kr (by rw [e]; decide)
    · have e : why S (.take n x) = "" := by unfold why; simp only [h, hj, if_pos he]
      exact kq e _ v H' ⟨j, r, ms, h, hj, rfl⟩ hs s
/-! ### the editor's object -/
def ef (nv : V) (l cv : Addr) : List (Str × V) := [("members", nv), ("states", .ref l), ("commands", .ref cv)]
theorem ef_members {nv : V} {l cv : Addr} : (ef nv l cv).lookup ("members" : Str) = some nv := rfl
theorem ef_states {nv : V} {l cv : Addr} : (ef nv l cv).lookup ("states" : Str) = some (.ref l) := rfl
theorem ef_commands {nv : V} {l cv : Addr} : (ef nv l cv).lookup ("commands" : Str) = some (.ref cv) := rfl
theorem ef_no {nv : V} {l cv : Addr} {m : Str} (h1 : (m == "members") = false) (h2 : (m == "states") = false) (h3 : (m == "commands") = false) : (ef nv l cv).lookup m = none := by
  unfold ef
  simp only [List.lookup, h1, h2, h3]
theorem put1 (nv : V) : putF "members" nv [] = [(("members" : Str), nv)] := rfl
theorem put2 (nv : V) (l : Addr) : putF "states" (.ref l) [(("members" : Str), nv)] = [(("members" : Str), nv), ("states", .ref l)] := by
  show (if ("members" : Str) = "states" then _ else _) = _
  rw [if_neg (by decide +kernel)]
  rfl
theorem put3 (nv : V) (l cv : Addr) : putF "commands" (.ref cv) [(("members" : Str), nv), ("states", .ref l)] = ef nv l cv := by
  show (if ("members" : Str) = "commands" then _ else _) = _
  rw [if_neg (by decide +kernel)]
  show (("members" : Str), nv) :: (if ("states" : Str) = "commands" then _ else _) = _
  rw [if_neg (by decide +kernel)]
  rfl
theorem put4 (nv : V) (l cv dv : Addr) : putF "commands" (.ref dv) (ef nv l cv) = ef nv l dv := by
  show (if ("members" : Str) = "commands" then _ else _) = _
  rw [if_neg (by decide +kernel)]
  show (("members" : Str), nv) :: (if ("states" : Str) = "commands" then _ else _) = _
  rw [if_neg (by decide +kernel)]
  show (("members" : Str), nv) :: ("states", V.ref l) :: (if ("commands" : Str) = "commands" then _ else _) = _
  rw [if_pos rfl]
  rfl
/-- an editor stands at e: its states in the list at l, the last one tells S; its journal's commands are cvs -/
def EdAt (C : Addr) (H : Hp) (e l : Addr) (nv : V) (S : Sets) (cvs : List V) : Prop :=
  ∃ dx cv pre sv, H e = some (.ins C dx (ef nv l cv)) ∧ H l = some (.lst (pre ++ [sv])) ∧ SetsT H sv S ∧ H cv = some (.tup cvs) ∧ pre.length = cvs.length
theorem EdAt.same {C : Addr} {H H' : Hp} {e l : Addr} {nv : V} {S : Sets} {cvs : List V} (s : Same H H') (h : EdAt C H e l nv S cvs) : EdAt C H' e l nv S cvs :=
  let ⟨dx, cv, pre, sv, h1, h2, h3, h4, h5⟩ := h; ⟨dx, cv, pre, sv, s _ _ h1, s _ _ h2, h3.same s, s _ _ h4, h5⟩
/-- all but e and l is kept -/
def Keep2 (e l : Addr) (H H' : Hp) : Prop := ∀ b o, H b = some o → b ≠ e → b ≠ l → H' b = some o
structure EdC (K : PySem.W.Frag) (mg : Str → Option Value) (C : Addr) : Prop where
  cl : Cls K C
  nM : NoAttr K C "members"
  nS : NoAttr K C "states"
  nC : NoAttr K C "commands"
  gC : mg "Editor" = some (.ref C)
section
variable {P : Program} {w : World} {K : PySem.W.Frag} {mg : Str → Option Value} {base : Heap}
/-! ### Editor(names) -/
def spEdInit (C : Addr) : Sp := fun vs H Q _ => ∃ e dx nv ns, vs = [.ref e, nv] ∧ H e = some (.ins C dx []) ∧ NamT H nv ns ∧ (∀ x ∈ ns, OkName x) ∧ ns.Nodup ∧ 1 ≤ ns.length ∧ ns.length ≤ 8 ∧
  ∀ l H', EdAt C H' e l nv [] [] → H l = none → (∀ b o, H b = some o → b ≠ e → H' b = some o) → Q .non H'
theorem scEdInit : FnScope ["self", "names"] ["self", "names"] (defScope sEdInit) := ⟨rfl, rfl, rfl, by decide +kernel, rfl, by decide +kernel, by decide +kernel⟩
theorem ok_edInit {f C : Addr} {fd : FuncData} (F : Fun K "__init__" "Editor.__init__" sEdInit f fd) (B : Blt mg) (T : EdC K mg C) (HA : Has P w K mg base CX0 2 "are_names" ["value"] spAreNames) : FnOk P w K mg base CX0 3 f fd ["self", "names"] (spEdInit C) := by
  obtain ⟨fA, fdA, GA, mA, kA, bA⟩ := HA
  obtain ⟨tM, mM⟩ := B.mostElements
  refine F.ok scEdInit (fun vs H Q E h => ?_) (fun cdv A outer s H vs Q E hr h => ?_)
  · obtain ⟨e, dx, nv, ns, rfl, _⟩ := h
    rfl
  · refine ⟨_, pss_cons (ps_if (PW.pt (pw_or (pt_not (pt_val (pe_call GA hr (by rfl) mA kA bA .nil pass0 (pa_cons (pv 1) pa_nil))))
        (pw_or1 (pt_not (pt_chain op_le op_le pe_int (pe_callB call_len (by rfl) B.len PySem.boot_len (pa_cons (pv 1) pa_nil)) (pe_glob (v := .int 8) (by rfl) mM ⟨_, rfl⟩))))))
        (pss_one ps_never) pss_nil)
      (pss_cons (ps_fld (pv 0) (pv 1) rfl)
      (pss_cons (ps_fld (pv 0) (pe_lst (pa_cons (pe_tup pa_nil) pa_nil)) rfl)
      (pss_one (ps_fld (pv 0) (pe_tup pa_nil) rfl)))), ?_⟩
    obtain ⟨e, dx, nv, ns, rfl, he, hn, hok, hnd, hl1, hl8, k⟩ := h
    refine ⟨_, rfl, nv, ns, rfl, hn, hok, hnd, by omega, fun H1 s1 => ⟨true, rfl, ?_⟩⟩
    obtain ⟨na, rfl, hna⟩ := hn.same s1
    have he1 := s1 _ _ he
    have hnl : (ns.map V.str).length = ns.length := List.length_map _
    refine ⟨_, rfl, _, _, rfl, .inr ⟨_, Or.inl hna, rfl⟩, _, _, rfl, rfl, _, rfl, iteD (by rw [hnl]; omega) ?_⟩
    refine ⟨_, _, rfl, rfl, _, rfl, ?_⟩
    rw [decide_eq_true (show ((ns.map V.str).length : Int) ≤ 8 by rw [hnl]; omega)]
    refine ⟨_, rfl, _, rfl, e, C, dx, [], rfl, he1, T.cl, T.nM, (by show 0 < 1000; decide), ?_⟩
    generalize hH2 : upd H1 e (.ins C dx (putF "members" (.ref na) [])) = H2
    have he2 : H2 e = some (.ins C dx [("members", .ref na)]) := by rw [← hH2]; exact upd_same
    have k2 : ∀ b o, H b = some o → b ≠ e → H2 b = some o := fun b o hb hne => by rw [← hH2, upd_ne hne]; exact s1 b o hb
    refine ⟨(by show 0 ≤ sizeLine; omega), fun t ht => ⟨by show 1 ≤ sizeLine; decide, fun l hl => ?_⟩⟩
    have s3 := same_new (o := HO.tup []) ht
    have s4 := same_new (o := HO.lst [.ref t]) hl
    have he4 := s4 _ _ (s3 _ _ he2)
    refine ⟨_, rfl, e, C, dx, _, rfl, he4, T.cl, T.nS, (by show 1 < 1000; decide), ?_⟩
    have nel : e ≠ l := ne_of_none (s3 _ _ he2) hl
    have net : e ≠ t := ne_of_none he2 ht
    have ntl : t ≠ l := ne_of_none upd_same hl
    generalize hH5 : upd (upd (upd H2 t (.tup [])) l (.lst [.ref t])) e (.ins C dx (putF "states" (.ref l) [("members", .ref na)])) = H5
    have he5 : H5 e = some (.ins C dx [("members", .ref na), ("states", .ref l)]) := by rw [← hH5, upd_same, put2]
    have hl5 : H5 l = some (.lst [.ref t]) := by rw [← hH5, upd_ne nel.symm, upd_same]
    have ht5 : H5 t = some (.tup []) := by rw [← hH5, upd_ne net.symm, upd_ne ntl, upd_same]
    have k5 : ∀ b o, H b = some o → b ≠ e → H5 b = some o := fun b o hb hne => by
      rw [← hH5, upd_ne hne]
      exact s4 _ _ (s3 _ _ (k2 b o hb hne))
    refine ⟨(by show 0 ≤ sizeLine; omega), fun c hc => ?_⟩
    have s6 := same_new (o := HO.tup []) hc
    have he6 := s6 _ _ he5
    refine ⟨_, rfl, e, C, dx, _, rfl, he6, T.cl, T.nC, (by show 2 < 1000; decide), ?_⟩
    have nec : e ≠ c := ne_of_none he5 hc
    have nle : l ≠ e := nel.symm
    refine k l _ ⟨dx, c, [], .ref t, by rw [upd_same, put3], by rw [upd_ne nle]; exact s6 _ _ hl5, ⟨t, [], rfl, by rw [upd_ne net.symm]; exact s6 _ _ ht5, .nil⟩, by rw [upd_ne nec.symm, upd_same], rfl⟩ ?_ fun b o hb hne => by rw [upd_ne hne]; exact s6 _ _ (k5 b o hb hne)
    cases q : H l with
    | none => rfl
    | some o =>
      have q2 := s3 _ _ (k2 l o q nle)
      rw [hl] at q2
      cases q2
end
end Kt
namespace Kt
open PySem PySem.Spec PyProof.Rows L2
/-! ### tuples stay -/
def TKeep (H H' : Hp) : Prop := ∀ b xs, H b = some (.tup xs) → H' b = some (.tup xs)
theorem Same.tk {H H' : Hp} (s : Same H H') : TKeep H H' := fun b xs h => s b _ h
theorem TKeep.trans {H H1 H2 : Hp} (a : TKeep H H1) (b : TKeep H1 H2) : TKeep H H2 := fun c o h => b c o (a c o h)
theorem Keep.tk {s : Addr} {H H' : Hp} {xs : List V} (k : Keep s H H') (h : H s = some (.lst xs)) : TKeep H H' := fun b ys q => k b _ q (ne_of q h (by intro z; cases z))
theorem Keep2.tk {e l C dx : Addr} {fs : List (Str × V)} {H H' : Hp} {xs : List V} (k : Keep2 e l H H') (h : H l = some (.lst xs)) (he : H e = some (.ins C dx fs)) : TKeep H H' :=
  fun b ys q => k b _ q (ne_of q he (by intro z; cases z)) (ne_of q h (by intro z; cases z))
theorem tk_lst {H : Hp} {s : Addr} {xs ys : List V} (h : H s = some (.lst xs)) : TKeep H (upd H s (.lst ys)) := fun b zs q => by
  rw [upd_ne (ne_of q h (by intro z; cases z))]
  exact q
theorem tk_ins {H : Hp} {s C dx : Addr} {fs gs : List (Str × V)} (h : H s = some (.ins C dx fs)) : TKeep H (upd H s (.ins C dx gs)) := fun b zs q => by
  rw [upd_ne (ne_of q h (by intro z; cases z))]
  exact q
theorem StrT.tk {H H' : Hp} {v : V} {ss : List Str} (s : TKeep H H') (h : StrT H v ss) : StrT H' v ss := let ⟨a, e, q⟩ := h; ⟨a, e, s _ _ q⟩
theorem PairV.tk {H H' : Hp} {v : V} {p : Str × List Str} (s : TKeep H H') (h : PairV H v p) : PairV H' v p := let ⟨a, q, e, h1, h2⟩ := h; ⟨a, q, e, s _ _ h1, h2.tk s⟩
theorem pairs_tk {H H' : Hp} {vs : List V} {S : Sets} (s : TKeep H H') (h : Paired (PairV H) vs S) : Paired (PairV H') vs S := Paired.mapP h fun _ _ q => q.tk s
theorem SetsT.tk {H H' : Hp} {v : V} {S : Sets} (s : TKeep H H') (h : SetsT H v S) : SetsT H' v S := let ⟨a, vs, e, h1, h2⟩ := h; ⟨a, vs, e, s _ _ h1, pairs_tk s h2⟩
theorem CmdV.tk {H H' : Hp} {v : V} {c : Cmd} (s : TKeep H H') (h : CmdV H v c) : CmdV H' v c := by
  cases c with
  | add n ch => obtain ⟨a, q, e, h1, h2⟩ := h; exact ⟨a, q, e, s _ _ h1, h2.tk s⟩
  | drop n => obtain ⟨a, e, h1⟩ := h; exact ⟨a, e, s _ _ h1⟩
  | put n x => obtain ⟨a, e, h1⟩ := h; exact ⟨a, e, s _ _ h1⟩
  | take n x => obtain ⟨a, e, h1⟩ := h; exact ⟨a, e, s _ _ h1⟩
section
variable {P : Program} {w : World} {K : PySem.W.Frag} {mg : Str → Option Value} {base : Heap}
/-! ### act -/
def spAct (C D : Addr) : Sp := fun vs H Q E => ∃ e l nv ns S cvs cv c, vs = [.ref e, cv] ∧ EdAt C H e l nv S cvs ∧ NamT H nv ns ∧ (∀ x ∈ ns, OkName x) ∧ CmdV H cv c ∧ OkCmd ns c ∧ S.length ≤ 8 ∧ (∀ p ∈ S, p.2.length ≤ 40) ∧ cvs.length ≤ 15 ∧
  (why S c ≠ "" → Raised D H (why S c) E) ∧
  (why S c = "" → ∀ S' H', After S S' c → EdAt C H' e l nv S' (cvs ++ [cv]) → Keep2 e l H H' → Q (.int ((cvs.length + 1 : Nat) : Int)) H')
theorem scAct : FnScope ["self", "command", "behind"] ["self", "command"] (defScope sAct) := ⟨rfl, rfl, rfl, by decide +kernel, rfl, by decide +kernel, by decide +kernel⟩
theorem ok_act {f C D : Addr} {fd : FuncData} (F : Fun K "act" "Editor.act" sAct f fd) (B : Blt mg) (T : EdC K mg C) (HI : Has P w K mg base CX0 3 "is_command" ["value", "names"] spIsCommand)
    (HW : Has P w K mg base (L2.CX P w) 4 "with_command" ["sets", "command"] (spWith D)) : FnOk P w K mg base (L2.CX P w) 5 f fd ["self", "command"] (spAct C D) := by
  obtain ⟨fI, fdI, GI, mI, kI, bI⟩ := HI
  obtain ⟨fW, fdW, GW, mW, kW, bW⟩ := HW
  obtain ⟨tM, mM⟩ := B.mostCommands
  refine F.okX scAct (fun vs H Q E h => ?_) (fun cdv A outer s H vs Q E hr h => ?_)
  · obtain ⟨e, l, nv, ns, S, cvs, cv, c, rfl, _⟩ := h
    rfl
  · have hr3 : Room 3 _ := hr.mono (by decide)
    refine ⟨_, pss_cons (ps_if (pt_not (pt_val (pe_call GI hr3 (by rfl) mI kI bI .nil pass0 (pa_cons (pv 1) (pa_cons (pe_fld (pv 0) rfl) pa_nil))))) (pss_one ps_never) pss_nil)
      (pss_cons (ps_set (i := 2) scAct.nd rfl (Or.inl rfl) (pe_call GW hr (by rfl) mW kW bW .nil (passes_call (takes_of rfl rfl rfl rfl) (fun _ _ _ _ z => z)) (pa_cons (pe_ix ix_list (pe_fld (pv 0) rfl) (pe_un un_neg pe_int) (fun _ _ => rfl)) (pa_cons (pv 1) pa_nil))))
      (pss_cons (ps_if (pt_cmpR op_ge (pe_callB call_len (by rfl) B.len PySem.boot_len (pa_cons (pe_fld (pv 0) rfl) pa_nil)) (pe_glob (v := .int 20) (by rfl) mM ⟨_, rfl⟩) (nomark _)) (pss_one ps_never) pss_nil)
      (pss_cons (ps_expr (pe_bm PySem.F.plainAttrs_list PySem.F.slot_list_append PySem.F.type_list_append mt_append (pe_fld (pv 0) rfl) (pa_cons (pv 2) pa_nil)))
      (pss_cons (ps_fld (pv 0) (pe_op op_catA (pe_fld (pv 0) rfl) (pe_tup (pa_cons (pv 1) pa_nil))) rfl)
      (pss_one (ps_ret (pe_callB call_len (by rfl) B.len PySem.boot_len (pa_cons (pe_fld (pv 0) rfl) pa_nil)))))))), ?_⟩
    obtain ⟨e, l, nv, ns, S, cvs, cv, c, rfl, ⟨dx, tc, pre, sv, he, hl, hS, htc, hpl⟩, hn, hns, hc, hok, h8, h40, h15, kr, kq⟩ := h
    refine ⟨_, rfl, _, rfl, e, C, dx, _, _, rfl, he, T.cl, T.nM, ef_members, cv, nv, c, ns, rfl, hc, hn, hok, hns, fun H1 s1 => ⟨true, rfl, ?_⟩⟩
    have he1 := s1 _ _ he
    have hl1 := s1 _ _ hl
    have hS1 := hS.same s1
    have hc1 := hc.same s1
    refine ⟨_, rfl, e, C, dx, _, _, rfl, he1, T.cl, T.nS, ef_states, _, rfl, l, _, _, _, rfl, rfl, SqL.of hl1, atI_last _ _, _, rfl, ?_⟩
    refine with_of hS1 hc1 h8 h40 (fun n ch ec => ?_) (fun hw => (kr hw).mono s1) (fun hw S' v H2 hA hS2 s2 => ?_)
    · rw [ec] at hok
      exact Nat.le_trans hok.2.2.2 (by decide)
    · have he2 := s2 _ _ he1
      have hl2 := s2 _ _ hl1
      have htc2 := s2 _ _ (s1 _ _ htc)
      refine ⟨_, rfl, e, C, dx, _, _, rfl, he2, T.cl, T.nC, ef_commands, _, _, rfl, .inr ⟨_, SqT.of htc2, rfl⟩, _, _, rfl, rfl, _, rfl, ?_⟩
      refine iteND (by omega) ?_
      refine ⟨_, rfl, e, C, dx, _, _, rfl, he2, T.cl, T.nS, ef_states, .inl ⟨rfl, _, SqL.of hl2⟩, _, rfl, l, _, _, rfl, rfl, hl2, lt_line (by rw [List.length_append]; show pre.length + 1 ≤ 1000; omega), ?_⟩
      have nel : e ≠ l := ne_of he2 hl2 (by intro z; cases z)
      have tk3 : TKeep H2 (upd H2 l (.lst ((pre ++ [sv]) ++ [v]))) := tk_lst hl2
      generalize hH3 : upd H2 l (.lst ((pre ++ [sv]) ++ [v])) = H3 at tk3
      have he3 : H3 e = some (.ins C dx (ef nv l tc)) := by rw [← hH3, upd_ne nel]; exact he2
      have hl3 : H3 l = some (.lst ((pre ++ [sv]) ++ [v])) := by rw [← hH3]; exact upd_same
      refine ⟨_, rfl, e, C, dx, _, _, rfl, he3, T.cl, T.nC, ef_commands, _, rfl, (by show 1 ≤ sizeLine; decide), fun p hp => ?_⟩
      have s4 := same_new (o := HO.tup [cv]) hp
      refine cat_any (xs := cvs) (ys := [cv]) (s4 _ _ (tk3 _ _ htc2)) upd_same (by show cvs.length + 1 ≤ 1000; omega) fun q H5 hq s5 => ?_
      have s35 := s4.trans s5
      have he5 := s35 _ _ he3
      have hl5 := s35 _ _ hl3
      refine ⟨_, rfl, e, C, dx, _, rfl, he5, T.cl, T.nC, (by show 3 < 1000; decide), ?_⟩
      have tk6 : TKeep H5 (upd H5 e (.ins C dx (putF "commands" (.ref q) (ef nv l tc)))) := tk_ins he5
      have e6 : upd H5 e (.ins C dx (putF "commands" (.ref q) (ef nv l tc))) = upd H5 e (.ins C dx (ef nv l q)) := by rw [put4]
      rw [e6] at tk6
      rw [put4]
      have he6 : upd H5 e (.ins C dx (ef nv l q)) e = some (.ins C dx (ef nv l q)) := upd_same
      generalize hH6 : upd H5 e (.ins C dx (ef nv l q)) = H6 at tk6 he6
      refine ⟨_, rfl, e, C, dx, _, _, rfl, he6, T.cl, T.nC, ef_commands, _, _, rfl, .inr ⟨_, SqT.of (tk6 _ _ hq), rfl⟩, ?_⟩
      have elen : (((cvs ++ [cv]).length : Nat) : Int) = ((cvs.length + 1 : Nat) : Int) := by rw [List.length_append]; rfl
      show Q (.int (((cvs ++ [cv]).length : Nat) : Int)) H6
      rw [elen]
      have nle : l ≠ e := nel.symm
      refine kq hw S' H6 hA ⟨dx, q, pre ++ [sv], v, he6, by rw [← hH6, upd_ne nle]; exact hl5, hS2.tk (tk3.trans ((Same.tk s35).trans tk6)), tk6 _ _ hq, by rw [List.length_append, List.length_append, hpl]; rfl⟩ fun b o hb h1 h2 => ?_
      rw [← hH6, upd_ne h1]
      refine s35 _ _ ?_
      rw [← hH3, upd_ne h2]
      exact s2 _ _ (s1 _ _ hb)
end
end Kt
namespace Kt
open PySem PySem.Spec PyProof.Rows L2
section
variable {X : Cx}
theorem call_tuple_ofK (K : PySem.W.Frag) (h : X.K = K := by rfl) : CallR X (.type "tuple") (fun xs H Q => ∃ p ys, xs = [.ref p] ∧ ((SqL K H p ys ∧ ∀ l, H l = none → Q (.ref l) (upd H l (.tup ys))) ∨ (SqT K H p ys ∧ Q (.ref p) H))) := by
  subst h
  exact call_tuple_of
theorem pi_tupK (K : PySem.W.Frag) {tg l : Expr} {tl : TE} (hl : PE X l tl) (h : X.K = K := by rfl) : PI X tg l (iTup K tl) := by
  subst h
  exact pi_tup hl
theorem pe_fldK (K : PySem.W.Frag) {e : Expr} {f : Str} {ta : TE} {pos : Pos} (he : PE X e ta) (hb : attributeBase e f X.env (eval e X.env) = eval e X.env) (h : X.K = K := by rfl) : PE X (.Attribute e f pos) (tFld K ta f) := by
  subst h
  exact pe_fld he hb
end
/-! ### the text's parts -/
def asgE : Stmt → Expr
  | .Assign _ e _ => e
  | _ => .Constant .none 0 ⟨0, 0, 0, 0⟩
def retE : Stmt → Expr
  | .Return (some e) _ => e
  | _ => .Constant .none 0 ⟨0, 0, 0, 0⟩
def arg0 : Expr → Expr
  | .Call _ (a :: _) _ _ => a
  | e => e
def lcSc : Expr → Scope
  | .ListComp _ _ sc _ => sc
  | _ => { kind := .function, names := [], isGenerator := false, isCoroutine := false }
/-! ### in_order -/
section
variable {P : Program} {w : World} {K : PySem.W.Frag} {mg : Str → Option Value} {base : Heap}
def spInOrder (C : Addr) : Sp := fun vs H Q _ => ∃ e dx l tc nv ns chv ch, vs = [.ref e, chv] ∧ H e = some (.ins C dx (ef nv l tc)) ∧ NamT H nv ns ∧ ns.length ≤ 100 ∧ StrT H chv ch ∧ ∀ v H', StrT H' v (ns.filter (· ∈ ch)) → Same H H' → Q v H'
theorem scInOrder : FnScope ["self", "chosen", "one"] ["self", "chosen"] (defScope sInOrder) := ⟨rfl, rfl, rfl, by decide +kernel, rfl, by decide +kernel, by decide +kernel⟩
theorem ok_inOrder {f C : Addr} {fd : FuncData} (F : Fun K "in_order" "Editor.in_order" sInOrder f fd) (B : Blt mg) (T : EdC K mg C) : FnOk P w K mg base CX0 1 f fd ["self", "chosen"] (spInOrder C) := by
  refine F.ok scInOrder (fun vs H Q E h => ?_) (fun cdv A outer s H vs Q E hr h => ?_)
  · obtain ⟨e, dx, l, tc, nv, ns, chv, ch, rfl, _⟩ := h
    rfl
  · refine ⟨_, pss_one (ps_ret (pe_callTy call_tuple_of (by rfl) B.tuple boot_tuple (pa_cons
      (pe_lc (own := [("one", 2)]) (g := gName 2) (by rfl) scInOrder.nd (pi_tup (pe_fld (pv 0) rfl)) (blkOk_by (own := [("one", 2)]) (N := ["self", "chosen", "one"]) (sc := defScope sInOrder) (by decide +kernel))
        (fun _ _ _ _ _ => pg_name (i := 2) scInOrder.nd rfl (Or.inl rfl)) (fun _ _ _ _ _ => pts_one (pt_cmpR (in_seqK K) (pv 2) (pv 1) (by rfl)))
        (fun _ _ _ _ _ => pv 2)) pa_nil))), ?_⟩
    obtain ⟨e, dx, l, tc, nv, ns, chv, ch, rfl, he, ⟨na, rfl, hna⟩, hl, ⟨ca, rfl, hca⟩, k⟩ := h
    refine ⟨_, rfl, e, C, dx, _, _, rfl, he, T.cl, T.nM, ef_members, na, rfl, ⟨_, Or.inl hna⟩, fun D hD => lc_it (walk_tup (K := K) (a := na) (xs := ns.map V.str)) (fun i H' => Same H H' ∧ H' D = some (.lst (((ns.take i).filter (· ∈ ch)).map V.str))) ⟨same_new hD, upd_same⟩ (fun i H' _ p => Or.inl (rd_same p.1 hna)) ?_ ?_⟩
    · rintro i y H' H'' hi ⟨s', hD'⟩ ⟨rfl, hy⟩
      obtain ⟨x, hx, rfl⟩ := str_at hy
      have hi' : i < ns.length := by rw [List.length_map] at hi; exact hi
      refine ⟨rfl, _, rfl, _, rfl, ca, _, rfl, .inr (SqT.of (s' _ _ hca)), rfl, flat_strs ch, decide (x ∈ ch), by rw [inV_str]; rfl, ?_⟩
      by_cases hm : x ∈ ch
      · refine iteD hm ?_
        refine ⟨_, rfl, _, hD', ?_, same_upd hD s', ?_⟩
        · rw [List.length_map]
          exact lt_line (Nat.le_trans (List.length_filter_le _ _) (by rw [List.length_take]; omega))
        · rw [upd_same, filter_more hx]
          simp only [hm, decide_true, if_true, List.map_append, List.map_cons, List.map_nil]
      · refine iteND hm ?_
        refine ⟨s', ?_⟩
        rw [filter_more hx]
        simp only [hm, decide_false, Bool.false_eq_true, if_false, List.append_nil]
        exact hD'
    · rintro H' ⟨s', hD'⟩
      rw [List.length_map, List.take_length] at hD'
      refine ⟨D, _, rfl, .inl ⟨SqL.of hD', fun l hl' => ?_⟩⟩
      exact k _ _ ⟨l, rfl, upd_same⟩ (s'.trans (same_new hl'))
/-! ### names, journal -/
def spNames (C : Addr) : Sp := fun vs H Q _ => ∃ e dx l tc nv, vs = [.ref e] ∧ H e = some (.ins C dx (ef nv l tc)) ∧ Q nv H
theorem scNames : FnScope ["self"] ["self"] (defScope sNames) := ⟨rfl, rfl, rfl, by decide +kernel, rfl, by decide +kernel, by decide +kernel⟩
theorem ok_names {f C : Addr} {fd : FuncData} (F : Fun K "names" "Editor.names" sNames f fd) (T : EdC K mg C) : FnOk P w K mg base CX0 1 f fd ["self"] (spNames C) := by
  refine F.ok scNames (fun vs H Q E h => ?_) (fun cdv A outer s H vs Q E hr h => ?_)
  · obtain ⟨e, dx, l, tc, nv, rfl, _⟩ := h
    rfl
  · refine ⟨_, pss_one (ps_ret (pe_fld (pv 0) rfl)), ?_⟩
    obtain ⟨e, dx, l, tc, nv, rfl, he, k⟩ := h
    exact ⟨_, rfl, e, C, dx, _, _, rfl, he, T.cl, T.nM, ef_members, k⟩
def spJournal (C : Addr) : Sp := fun vs H Q _ => ∃ e dx l tc nv, vs = [.ref e] ∧ H e = some (.ins C dx (ef nv l tc)) ∧ Q (.ref tc) H
theorem scJournal : FnScope ["self"] ["self"] (defScope sJournal) := ⟨rfl, rfl, rfl, by decide +kernel, rfl, by decide +kernel, by decide +kernel⟩
theorem ok_journal {f C : Addr} {fd : FuncData} (F : Fun K "journal" "Editor.journal" sJournal f fd) (T : EdC K mg C) : FnOk P w K mg base CX0 1 f fd ["self"] (spJournal C) := by
  refine F.ok scJournal (fun vs H Q E h => ?_) (fun cdv A outer s H vs Q E hr h => ?_)
  · obtain ⟨e, dx, l, tc, nv, rfl, _⟩ := h
    rfl
  · refine ⟨_, pss_one (ps_ret (pe_fld (pv 0) rfl)), ?_⟩
    obtain ⟨e, dx, l, tc, nv, rfl, he, k⟩ := h
    exact ⟨_, rfl, e, C, dx, _, _, rfl, he, T.cl, T.nC, ef_commands, k⟩
/-! ### sets -/
/-- the sets as they are told -/
def told (ns : List Str) (S : Sets) : Sets := S.map fun p => (p.1, ns.filter (· ∈ p.2))
def spSets (C : Addr) : Sp := fun vs H Q _ => ∃ e l nv ns S cvs, vs = [.ref e] ∧ EdAt C H e l nv S cvs ∧ NamT H nv ns ∧ ns.length ≤ 100 ∧ S.length ≤ 100 ∧ ∀ v H', SetsT H' v (told ns S) → Same H H' → Q v H'
theorem scSets : FnScope ["self", "name", "chosen"] ["self"] (defScope sSets) := ⟨rfl, rfl, rfl, by decide +kernel, rfl, by decide +kernel, by decide +kernel⟩
theorem ok_sets {f fO C : Addr} {fd fdO : FuncData} (F : Fun K "sets" "Editor.sets" sSets f fd) (B : Blt mg) (T : EdC K mg C) (GO : FnOk P w K mg base CX0 1 fO fdO ["self", "chosen"] (spInOrder C)) (bO : Binds K fdO ["self", "chosen"] []) (mO : Meth K C "in_order" fO) :
    FnOk P w K mg base CX0 2 f fd ["self"] (spSets C) := by
  refine F.ok scSets (fun vs H Q E h => ?_) (fun cdv A outer s H vs Q E hr h => ?_)
  · obtain ⟨e, l, nv, ns, S, cvs, rfl, _⟩ := h
    rfl
  · refine ⟨_, pss_one (ps_ret (pe_callTy call_tuple_of (by rfl) B.tuple boot_tuple (pa_cons
      (pe_lc (own := [("name", 1), ("chosen", 2)]) (g := gTup K 2 (gCons (gName 1) (gCons (gName 2) gNil))) (by rfl) scSets.nd (pi_tup (pe_ix ix_list (pe_fld (pv 0) rfl) (pe_un un_neg pe_int) (fun _ _ => rfl))) (blkOk_by (own := [("name", 1), ("chosen", 2)]) (N := ["self", "name", "chosen"]) (sc := defScope sSets) (by decide +kernel))
        (fun _ _ _ _ _ => pg_tup (by rfl) (pgs_cons (pg_name (i := 1) scSets.nd rfl (Or.inl rfl)) (pgs_cons (pg_name (i := 2) scSets.nd rfl (Or.inl rfl)) pgs_nil))) (fun _ _ _ _ _ => pts_nil)
        (fun _ _ _ _ _ => pe_tup (pa_cons (pv 1) (pa_cons (pe_meth (pv 0) T.cl mO GO hr bO .nil pass0 (pa_cons (pv 2) pa_nil)) pa_nil)))) pa_nil))), ?_⟩
    obtain ⟨e, l, nv, ns, S, cvs, rfl, ⟨dx, tc, pre, sv, he, hl, ⟨sa, svs, rfl, hsa, hS⟩, htc, hpl⟩, hn, hln, hlS, k⟩ := h
    have hlen := paired_len hS
    refine ⟨_, rfl, e, C, dx, _, _, rfl, he, T.cl, T.nS, ef_states, _, rfl, l, _, _, _, rfl, rfl, SqL.of hl, atI_last _ _, sa, rfl, ⟨_, SqT.of hsa⟩, fun D hD => lc_it (walk_tup (K := K) (a := sa) (xs := svs)) (fun i H' => Same H H' ∧ ∃ ws, H' D = some (.lst ws) ∧ Paired (PairV H') ws (told ns (S.take i))) ⟨same_new hD, [], upd_same, .nil⟩ (fun i H' _ p => SqT.of (p.1 _ _ hsa)) ?_ ?_⟩
    · rintro i y H' H'' hi ⟨s', ws, hD', hW⟩ ⟨rfl, hy⟩
      obtain ⟨p, hp, pa, q, rfl, hpa, hq⟩ := paired_get hS hy
      have hpa' := s' _ _ hpa
      refine ⟨pa, _, rfl, SqT.of hpa', rfl, _, _, rfl, _, _, rfl, rfl, rfl, ?_⟩
      refine ⟨_, rfl, _, rfl, e, dx, _, rfl, s' _ _ he, ef_no (by decide +kernel) (by decide +kernel) (by decide +kernel), _, rfl, e, dx, l, tc, nv, ns, q, p.2, rfl, s' _ _ he, hn.same s', hln, hq.same s', fun v H3 hv s3 => ⟨by show 2 ≤ sizeLine; decide, fun t ht => ?_⟩⟩
      have s4 := same_new (o := HO.tup [.str p.1, v]) ht
      have hD3 := s4 _ _ (s3 _ _ hD')
      have wl := paired_len hW
      refine ⟨ws, hD3, ?_, ?_⟩
      · rw [wl]
        unfold told
        rw [List.length_map, List.length_take]
        exact lt_line (by omega)
      · have s34 : Same H'' (upd H3 t (.tup [.str p.1, v])) := s3.trans s4
        have sF : Same H (upd H3 t (.tup [.str p.1, v])) := s'.trans s34
        have tkD := tk_lst (ys := ws ++ [.ref t]) hD3
        refine ⟨same_upd hD sF, _, upd_same, ?_⟩
        have e1 : told ns (S.take (i + 1)) = told ns (S.take i) ++ [(p.1, ns.filter (· ∈ p.2))] := by
          unfold told
          have e2 : S.take (i + 1) = S.take i ++ [p] := take_more hp
          rw [e2, List.map_append]
          rfl
        rw [e1]
        exact paired_app (pairs_tk tkD (pairs_same s34 hW)) (.cons ⟨t, v, rfl, tkD _ _ upd_same, (hv.same s4).tk tkD⟩ .nil)
    · rintro H' ⟨s', ws, hD', hW⟩
      rw [hlen, List.take_length] at hW
      refine ⟨D, _, rfl, .inl ⟨SqL.of hD', fun l2 hl2 => ?_⟩⟩
      have s2 := same_new (o := HO.tup ws) hl2
      exact k _ _ ⟨l2, ws, rfl, upd_same, pairs_same s2 hW⟩ (s'.trans s2)
end
end Kt
namespace Kt
open PySem PySem.Spec PyProof.Rows L2
/-! ### system -/
def lcElt : Expr → Expr
  | .ListComp e _ _ _ => e
  | e => e
/-- the place of a name -/
def ix (x : Str) : List Str → Nat
  | [] => 0
  | y :: r => if y = x then 0 else ix x r + 1
theorem ix_spec {x : Str} : ∀ {ns : List Str}, x ∈ ns → ns[ix x ns]? = some x ∧ ∀ m, m < ix x ns → ns[m]? ≠ some x
  | [], h => by simp at h
  | y :: r, h => by
    by_cases e : y = x
    · subst e
      have e0 : ix y (y :: r) = 0 := if_pos rfl
      rw [e0]
      exact ⟨rfl, fun m hm => absurd hm (Nat.not_lt_zero _)⟩
    · have e1 : ix x (y :: r) = ix x r + 1 := if_neg e
      have hm : x ∈ r := by
        rcases List.mem_cons.mp h with h | h
        · exact absurd h.symm e
        · exact h
      obtain ⟨a, b⟩ := ix_spec hm
      rw [e1]
      refine ⟨a, fun m hm' => ?_⟩
      cases m with
      | zero => exact fun z => e (Option.some.inj z)
      | succ m => exact b m (Nat.lt_of_succ_lt_succ hm')
def IntT (H : Hp) (u : V) (row : List Nat) : Prop := ∃ a, u = .ref a ∧ H a = some (.tup (natsV row))
theorem IntT.tk {H H' : Hp} {u : V} {row : List Nat} (s : TKeep H H') (h : IntT H u row) : IntT H' u row := let ⟨a, e, q⟩ := h; ⟨a, e, s _ _ q⟩
theorem rows_tk {H H' : Hp} {vs : List V} {rows : List (List Nat)} (s : TKeep H H') (h : Paired (IntT H) vs rows) : Paired (IntT H') vs rows := Paired.mapP h fun _ _ q => q.tk s
def SysV (H : Hp) (v : V) (n : Nat) (rows : List (List Nat)) : Prop := ∃ a b vs, v = .ref a ∧ H a = some (.tup [.int (n : Int), .ref b]) ∧ H b = some (.tup vs) ∧ Paired (IntT H) vs rows
section
variable {P : Program} {w : World} {K : PySem.W.Frag} {mg : Str → Option Value} {base : Heap}
/-- the system of an editor -/
def rowsE (ns : List Str) (S : Sets) : List (List Nat) := (told ns S).map fun p => p.2.map (ix · ns)
theorem told_sub {ns : List Str} {S : Sets} {i : Nat} {p : Str × List Str} (h : (told ns S)[i]? = some p) : ∀ x ∈ p.2, x ∈ ns := by
  unfold told at h
  rw [List.getElem?_map] at h
  cases e : S[i]? with
  | none => rw [e] at h; cases h
  | some q =>
    rw [e] at h
    obtain rfl := (Option.some.inj h).symm
    intro x hx
    exact (List.mem_filter.mp hx).1
theorem told_len {ns : List Str} {S : Sets} {i : Nat} {p : Str × List Str} (h : (told ns S)[i]? = some p) : p.2.length ≤ ns.length := by
  unfold told at h
  rw [List.getElem?_map] at h
  cases e : S[i]? with
  | none => rw [e] at h; cases h
  | some q =>
    rw [e] at h
    obtain rfl := (Option.some.inj h).symm
    exact List.length_filter_le _ _
def spSystem (C : Addr) : Sp := fun vs H Q _ => ∃ e l nv ns S cvs, vs = [.ref e] ∧ EdAt C H e l nv S cvs ∧ FrzT H nv ns ∧ ns.length ≤ 100 ∧ S.length ≤ 100 ∧ ∀ v H', SysV H' v ns.length (rowsE ns S) → Same H H' → Q v H'
abbrev nSystem : List Str := ["self", "sets", "_", "chosen", "one"]
theorem scSystem : FnScope nSystem ["self"] (defScope sSystem) := ⟨rfl, rfl, rfl, by decide +kernel, rfl, by decide +kernel, by decide +kernel⟩
def lcSys : Expr := asgE ((defBody sSystem).getD 0 (.Pass ⟨0, 0, 0, 0⟩))
theorem okSys2 : BlkOk nSystem (relS (lcSc lcSys) (defScope sSystem)) (lcSc (arg0 (lcElt lcSys))) [("one", 4)] := blkOk_by (by decide +kernel)
theorem ok_system {f fS C : Addr} {fd fdS : FuncData} (F : Fun K "system" "Editor.system" sSystem f fd) (B : Blt mg) (T : EdC K mg C) (GS : FnOk P w K mg base CX0 2 fS fdS ["self"] (spSets C)) (bS : Binds K fdS ["self"] []) (mS : Meth K C "sets" fS) :
    FnOk P w K mg base CX0 3 f fd ["self"] (spSystem C) := by
  refine F.ok scSystem (fun vs H Q E h => ?_) (fun cdv A outer s H vs Q E hr h => ?_)
  · obtain ⟨e, l, nv, ns, S, cvs, rfl, _⟩ := h
    rfl
  · refine ⟨_, pss_cons (ps_setLc (i := 1) (own := [("_", 2), ("chosen", 3)]) (g := gTup K 2 (gCons (gName 2) (gCons (gName 3) gNil))) (by rfl) scSystem.nd rfl rfl (sw_true rfl rfl rfl (by decide +kernel)) (pi_tup (pe_meth0 (pv 0) T.cl mS GS hr bS .nil pass0))
          (blkOk_by (own := [("_", 2), ("chosen", 3)]) (N := nSystem) (sc := defScope sSystem) (by decide +kernel))
          (fun _ _ _ _ _ => pg_tup (by rfl) (pgs_cons (pg_name (i := 2) scSystem.nd rfl (Or.inl rfl)) (pgs_cons (pg_name (i := 3) scSystem.nd rfl (Or.inl rfl)) pgs_nil))) (fun _ _ _ _ _ => pts_nil)
          (fun _ _ _ _ _ => pe_callTy (call_tuple_ofK K) (by rfl) B.tuple boot_tuple (pa_cons
            (pe_lc (own := [("one", 4)]) (g := gName 4) (tt := tYes) (by rfl) scSystem.nd (pi_tupK K (pv 3)) okSys2
              (fun _ _ _ _ _ => pg_name (i := 4) scSystem.nd rfl (Or.inl rfl)) (fun _ _ _ _ _ => pts_nil)
              (fun _ _ _ _ _ => pe_tupIndex (pe_fldK K (pv 0) rfl) (pv 4))) pa_nil)))
      (pss_one (ps_ret (pe_tup (pa_cons (pe_callB call_len (by rfl) B.len PySem.boot_len (pa_cons (pe_fld (pv 0) rfl) pa_nil)) (pa_cons (pe_callTy call_tuple_of (by rfl) B.tuple boot_tuple (pa_cons (pv 1) pa_nil)) pa_nil))))), ?_⟩
    obtain ⟨e, l, nv, ns, S, cvs, rfl, hE, hF, hln, hlS, k⟩ := h
    obtain ⟨dx, tc, pre, sv, he, _⟩ := id hE
    refine ⟨_, rfl, e, dx, _, rfl, he, ef_no (by decide +kernel) (by decide +kernel) (by decide +kernel), e, l, nv, ns, S, cvs, rfl, hE, hF.nam, hln, hlS, fun v H1 hv s1 => ?_⟩
    obtain ⟨sa, svs, rfl, hsa, hT⟩ := hv
    have hlen : svs.length = S.length := by
      have q := paired_len hT
      unfold told at q
      rw [List.length_map] at q
      exact q
    refine ⟨sa, rfl, ⟨_, SqT.of hsa⟩, fun D hD => lc_it (walk_tup (K := K) (a := sa) (xs := svs)) (fun i H' => Same H1 H' ∧ ∃ ws, H' D = some (.lst ws) ∧ Paired (IntT H') ws ((rowsE ns S).take i)) ⟨same_new hD, [], upd_same, .nil⟩ (fun i H' _ p => SqT.of (p.1 _ _ hsa)) ?_ ?_⟩
    · rintro i y H' H'' hi ⟨s', ws, hD', hW⟩ ⟨rfl, hy⟩
      obtain ⟨p, hp, pa, q, rfl, hpa, ⟨qa, rfl, hqa⟩⟩ := paired_get hT hy
      have hsub : ∀ x ∈ p.2, x ∈ ns := told_sub hp
      have hpl : p.2.length ≤ 100 := Nat.le_trans (told_len hp) hln
      have s1' := s1.trans s'
      obtain ⟨na, o, rfl, hna, hod⟩ := hF.same s1'
      have he' := s1' _ _ he
      have hqa' := s' _ _ hqa
      refine ⟨pa, _, rfl, SqT.of (s' _ _ hpa), rfl, _, _, rfl, _, _, rfl, rfl, rfl, ?_⟩
      refine ⟨_, rfl, qa, rfl, ⟨_, SqT.of hqa'⟩, fun D2 hD2 => lc_it (walk_tup (K := K) (a := qa) (xs := p.2.map V.str)) (fun j H2 => Same H'' H2 ∧ H2 D2 = some (.lst (natsV ((p.2.take j).map (ix · ns))))) ⟨same_new hD2, upd_same⟩ (fun j H2 _ p => SqT.of (p.1 _ _ hqa')) ?_ ?_⟩
      · rintro j y2 H2 H3 hj ⟨s2, hD2'⟩ ⟨rfl, hy2⟩
        obtain ⟨x, hx, rfl⟩ := str_at hy2
        have hm := hsub x (List.mem_of_getElem? hx)
        have hj' : j < p.2.length := (List.getElem?_eq_some_iff.mp hx).1
        refine ⟨rfl, _, rfl, e, C, dx, _, _, rfl, s2 _ _ he', T.cl, T.nM, ef_members, na, o, ns, rfl, s2 _ _ hna, hod, _, rfl, x, ix x ns, rfl, s2 _ _ hna, (ix_spec hm).1, (ix_spec hm).2, _, hD2', ?_, same_upd hD2 s2, ?_⟩
        · unfold natsV
          rw [List.length_map, List.length_map, List.length_take]
          exact lt_line (by omega)
        · rw [upd_same, take_more hx]
          unfold natsV
          rw [List.map_append, List.map_append]
          rfl
      · rintro H2 ⟨s2, hD2'⟩
        rw [List.length_map, List.take_length] at hD2'
        refine ⟨D2, _, rfl, .inl ⟨SqL.of hD2', fun l2 hl2 => ?_⟩⟩
        have s3 := same_new (o := HO.tup (natsV (p.2.map (ix · ns)))) hl2
        have s23 := s2.trans s3
        have hD3 := s23 _ _ hD'
        have wl := paired_len hW
        refine ⟨ws, hD3, ?_, same_upd hD (s'.trans s23), _, upd_same, ?_⟩
        · rw [wl, List.length_take]
          exact lt_line (by omega)
        · have tkD := tk_lst (ys := ws ++ [.ref l2]) hD3
          have er : (rowsE ns S)[i]? = some (p.2.map (ix · ns)) := by
            unfold rowsE
            rw [List.getElem?_map, hp]
            rfl
          rw [take_more er]
          exact paired_app (rows_tk ((Same.tk s23).trans tkD) hW) (.cons ⟨l2, rfl, tkD _ _ upd_same⟩ .nil)
    · rintro H2 ⟨s2, ws, hD2, hW⟩
      have el : svs.length = (rowsE ns S).length := by
        unfold rowsE told
        rw [List.length_map, List.length_map, hlen]
      rw [el, List.take_length] at hW
      have s12 := s1.trans s2
      obtain ⟨na, o, rfl, hna, hod⟩ := hF.same s12
      refine ⟨_, rfl, e, C, dx, _, _, rfl, s12 _ _ he, T.cl, T.nM, ef_members, _, _, rfl, .inr ⟨_, .inl (.inr ⟨o, hna⟩), rfl⟩, ?_⟩
      refine ⟨_, rfl, D, _, rfl, .inl ⟨SqL.of hD2, fun l2 hl2 => ⟨by show 2 ≤ sizeLine; decide, fun t ht => ?_⟩⟩⟩
      have s3 := same_new (o := HO.tup ws) hl2
      have s4 := same_new (o := HO.tup [.int ((ns.map V.str).length : Nat), .ref l2]) ht
      refine k _ _ ⟨t, l2, ws, rfl, by rw [upd_same, List.length_map], s4 _ _ upd_same, rows_tk ((Same.tk s3).trans (Same.tk s4)) hW⟩ (s12.trans (s3.trans s4))
end
end Kt
namespace Kt
open PySem PySem.Spec PyProof.Rows L2
/-! ### the law's stream of draws -/
def StreamV (H : Hp) (s c : Addr) : Prop := ∃ (ns : List Int) (cur k : Int), H s = some (.lst [.ref c, .int cur, .int k]) ∧ H c = some (.lst (ns.map V.int)) ∧ 0 ≤ cur ∧ 0 ≤ k
theorem StreamV.lst {H : Hp} {s c : Addr} (h : StreamV H s c) : ∃ xs, H s = some (.lst xs) := let ⟨_, _, _, q, _⟩ := h; ⟨_, q⟩
theorem StreamV.cells {H : Hp} {s c : Addr} (h : StreamV H s c) : ∃ xs, H c = some (.lst xs) := let ⟨_, _, _, _, q, _⟩ := h; ⟨_, q⟩
theorem StreamV.same {H H' : Hp} {s c : Addr} (e : Same H H') (h : StreamV H s c) : StreamV H' s c := let ⟨ns, cur, k, h1, h2, h3⟩ := h; ⟨ns, cur, k, e _ _ h1, e _ _ h2, h3⟩
theorem StreamV.but {H H' : Hp} {s c : Addr} (h : StreamV H s c) (h1 : ∀ o, H s = some o → H' s = some o) (h2 : ∀ o, H c = some o → H' c = some o) : StreamV H' s c := let ⟨ns, cur, k, a, b, d⟩ := h; ⟨ns, cur, k, h1 _ a, h2 _ b, d⟩
section
variable {P : Program} {w : World} {K : PySem.W.Frag} {mg : Str → Option Value} {base : Heap}
def spStream (K : PySem.W.Frag) : Sp := fun vs H Q _ => ∃ a, ∃ ns : List Int, vs = [.ref a] ∧ SqL K H a (ns.map V.int) ∧ ∀ s c H', StreamV H' s c → H s = none → Same H H' → Q (.ref s) H'
theorem scStream : FnScope ["_law_script"] ["_law_script"] (defScope sStream) := ⟨rfl, rfl, rfl, by decide +kernel, rfl, by decide +kernel, by decide +kernel⟩
theorem ok_stream {f : Addr} {fd : FuncData} (F : Fun K "_law_stream" "_law_stream" sStream f fd) (B : Blt mg) : FnOk P w K mg base CX0 1 f fd ["_law_script"] (spStream K) := by
  refine F.ok scStream (fun vs H Q E h => ?_) (fun cdv A outer s H vs Q E hr h => ?_)
  · obtain ⟨a, ns, rfl, _⟩ := h
    rfl
  · refine ⟨_, pss_one (ps_ret (pe_lst (pa_cons (pe_callTy call_list_of (by rfl) B.list boot_list (pa_cons (pv 0) pa_nil)) (pa_cons pe_int (pa_cons pe_int pa_nil))))), ?_⟩
    obtain ⟨a, ns, rfl, ha, k⟩ := h
    refine ⟨_, rfl, a, _, rfl, .inl ha, fun l hl => ⟨by show 3 ≤ sizeLine; decide, fun s hs => ?_⟩⟩
    have s1 := same_new (o := HO.lst (ns.map V.int)) hl
    have s2 := same_new (o := HO.lst [.ref l, .int 0, .int 0]) hs
    refine k s l _ ⟨ns, 0, 0, upd_same, s2 _ _ upd_same, Int.le_refl _, Int.le_refl _⟩ ?_ (s1.trans s2)
    exact Same.free s1 hs
abbrev nNext : List Str := ["_law_stream_here", "_law_many", "_law_k", "_law_cell", "_law_digit"]
def spNext : Sp := fun vs H Q _ => ∃ s c, ∃ m : Int, vs = [.ref s, .int m] ∧ StreamV H s c ∧ 1 ≤ m ∧ m ≤ 1000 ∧ ∀ (d : Int) H', 0 ≤ d → d < m → StreamV H' s c → Keep s H H' → Q (.int d) H'
theorem scNext : FnScope nNext ["_law_stream_here", "_law_many"] (defScope sNext) := ⟨rfl, rfl, rfl, by decide +kernel, rfl, by decide +kernel, by decide +kernel⟩
theorem ok_next {f : Addr} {fd : FuncData} (F : Fun K "_law_next" "_law_next" sNext f fd) (B : Blt mg) : FnOk P w K mg base CX0 1 f fd ["_law_stream_here", "_law_many"] spNext := by
  refine F.ok scNext (fun vs H Q E h => ?_) (fun cdv A outer s H vs Q E hr h => ?_)
  · obtain ⟨s, c, m, rfl, _⟩ := h
    rfl
  · refine ⟨_, pss_cons (ps_if (pt_cmpR op_eq (pe_ix ix_list (pv 0) pe_int (fun _ _ => rfl)) pe_int (nomark _)) (pss_cons (ps_set (i := 2) scNext.nd rfl (Or.inl rfl) (pe_ix ix_list (pv 0) pe_int (fun _ _ => rfl)))
      (pss_cons (ps_set (i := 3) scNext.nd rfl (Or.inl rfl) (pe_op op_add pe_int (pv 2)))
      (pss_cons (ps_if (pt_cmpR op_lt (pv 2) (pe_callB call_len (by rfl) B.len PySem.boot_len (pa_cons (pe_ix ix_list (pv 0) pe_int (fun _ _ => rfl)) pa_nil)) (nomark _)) (pss_one (ps_set (i := 3) scNext.nd rfl (Or.inl rfl) (pe_callB call_abs (by rfl) B.abs boot_abs (pa_cons (pe_ix ix_list (pe_ix ix_list (pv 0) pe_int (fun _ _ => rfl)) (pv 2) (fun _ _ => rfl)) pa_nil)))) pss_nil)
      (pss_cons (ps_if (pt_cmpR op_lt (pv 3) (pe_op op_pow pe_int pe_int) (nomark _)) (pss_cons (ps_set (i := 3) scNext.nd rfl (Or.inl rfl) (pe_op op_mod (pe_callTy call_int1 (by rfl) B.int boot_int (pa_cons (pe_op op_add (pe_op op_add (pe_op op_mul (pv 3) pe_int) (pe_op op_mul (pv 2) pe_int)) pe_int) pa_nil)) pe_int))
      (pss_one (ps_set (i := 3) scNext.nd rfl (Or.inl rfl) (pe_op op_add (pe_op op_mul (pe_op op_mod (pe_callTy call_int1 (by rfl) B.int boot_int (pa_cons (pe_op op_add (pe_op op_mul (pv 3) pe_int) pe_int) pa_nil)) pe_int) pe_int) (pv 3))))) pss_nil)
      (pss_cons (ps_asg (pv 3) (pg_sub (pv 0) pe_int set_list))
      (pss_one (ps_asg (pe_op op_add (pv 2) pe_int) (pg_sub (pv 0) pe_int set_list)))))))) pss_nil)
      (pss_cons (ps_set (i := 4) scNext.nd rfl (Or.inl rfl) (pe_op op_modN (pe_callTy call_int1 (by rfl) B.int boot_int (pa_cons (pe_ix ix_list (pv 0) pe_int (fun _ _ => rfl)) pa_nil)) (pv 1)))
      (pss_cons (ps_asg (pe_op op_fdivN (pe_ix ix_list (pv 0) pe_int (fun _ _ => rfl)) (pv 1)) (pg_sub (pv 0) pe_int set_list))
      (pss_one (ps_ret (pv 4))))), ?_⟩
    obtain ⟨s, c, m, rfl, ⟨ns, cur, k, hs, hc, hcur, hk⟩, hm1, hm2, kk⟩ := h
    have ncs : c ≠ s := fun e => by
      rw [e, hs] at hc
      have q := HO.lst.inj (Option.some.inj hc)
      cases ns with
      | nil => cases q
      | cons z r => cases (List.cons.inj q).1
    have fin : ∀ (cur' k' : Int) (H1 : Hp), 0 ≤ cur' → 0 ≤ k' → H1 s = some (.lst [.ref c, .int cur', .int k']) → Keep s H H1 → Q (.int (cur'.fmod m)) (upd H1 s (.lst [.ref c, .int (cur'.fdiv m), .int k'])) := by
      intro cur' k' H1 h1 h2 h3 h4
      have e1 : cur'.fmod m = cur' % m := Int.fmod_eq_emod_of_nonneg _ (by omega)
      have e2 : cur'.fdiv m = cur' / m := Int.fdiv_eq_ediv_of_nonneg _ (by omega)
      rw [e1, e2]
      refine kk _ _ (Int.emod_nonneg _ (by omega)) (Int.emod_lt_of_pos _ (by omega)) ⟨ns, cur' / m, k', upd_same, ?_, Int.ediv_nonneg h1 (by omega), h2⟩ fun b o hb hn => ?_
      · rw [upd_ne ncs]
        exact h4 _ _ hc ncs
      · rw [upd_ne hn]
        exact h4 b o hb hn
    refine ⟨_, rfl, s, _, _, _, rfl, rfl, SqL.of hs, atI_nat (j := 1) rfl, rfl, _, rfl, ?_⟩
    by_cases h0 : cur = 0
    · refine iteD (by rw [h0]) ?_
      refine ⟨_, rfl, s, _, _, _, rfl, rfl, SqL.of hs, atI_nat (j := 2) rfl, ?_⟩
      refine ⟨_, rfl, _, _, rfl, rfl, ?_⟩
      refine ⟨_, rfl, _, rfl, s, _, _, _, rfl, rfl, SqL.of hs, atI_nat (j := 0) rfl, _, _, rfl, .inl ⟨_, SqL.of hc, rfl⟩, _, _, rfl, rfl, _, rfl, ?_⟩
      by_cases h1 : k < ((ns.map V.int).length : Int)
      · refine iteD h1 ?_
        rw [List.length_map] at h1
        obtain ⟨j, hj⟩ : ∃ j : Nat, k = (j : Int) := ⟨k.toNat, by omega⟩
        have hjl : j < ns.length := by omega
        have hz : (ns.map V.int)[j]? = some (V.int ns[j]) := by rw [List.getElem?_map, List.getElem?_eq_getElem hjl]; rfl
        refine ⟨_, rfl, s, _, _, _, rfl, rfl, SqL.of hs, atI_nat (j := 0) rfl, _, rfl, c, _, _, _, rfl, rfl, SqL.of hc, at_of hj hz, _, rfl, ?_⟩
        have hX : 0 ≤ (if ns[j] < 0 then -ns[j] else ns[j]) := by split <;> omega
        refine ⟨_, rfl, _, _, rfl, rfl, ⟨by decide, by decide, by decide⟩, _, _, rfl, rfl, _, rfl, ?_⟩
        by_cases h2 : ((if ns[j] < 0 then -ns[j] else ns[j])) < (10 : Int) ^ (18 : Int).toNat
        · refine iteD h2 ?_
          refine ⟨_, rfl, _, _, rfl, rfl, .inr ⟨by decide, by decide⟩, _, rfl, _, _, rfl, rfl, .inr ⟨by decide, by decide⟩, _, _, rfl, rfl, _, _, rfl, rfl, .inl ⟨_, rfl, _, _, rfl, rfl, (by show (0 : Int) < 2147483647; decide), ?_⟩⟩
          have hY : 0 ≤ (((if ns[j] < 0 then -ns[j] else ns[j])) * 48271 + k * 69621 + 11) % 2147483647 := Int.emod_nonneg _ (by decide)
          refine ⟨_, rfl, _, _, rfl, rfl, .inr ⟨by decide, by decide⟩, _, _, rfl, rfl, .inl ⟨_, rfl, _, _, rfl, rfl, (by show (0 : Int) < 2147483647; decide), _, _, rfl, rfl, .inr ⟨by decide, by decide⟩, _, rfl, _, _, rfl, rfl, ?_⟩⟩
          have hZ : 0 ≤ (((((if ns[j] < 0 then -ns[j] else ns[j])) * 48271 + k * 69621 + 11) % 2147483647) * 16807 + 13) % 2147483647 * 65537 + ((((if ns[j] < 0 then -ns[j] else ns[j])) * 48271 + k * 69621 + 11) % 2147483647) := by
            have q : 0 ≤ (((((if ns[j] < 0 then -ns[j] else ns[j])) * 48271 + k * 69621 + 11) % 2147483647) * 16807 + 13) % 2147483647 := Int.emod_nonneg _ (by decide)
            omega
          refine ⟨_, rfl, _, rfl, s, _, 1, 1, rfl, rfl, hs, rfl, ?_⟩
          refine ⟨_, rfl, _, _, rfl, rfl, _, rfl, s, _, 2, 2, rfl, rfl, upd_same, rfl, ?_⟩
          refine ⟨_, rfl, s, _, _, _, rfl, rfl, SqL.of upd_same, atI_nat (j := 1) rfl, .inl ⟨_, rfl, _, rfl, _, _, rfl, rfl, (by omega), ?_⟩⟩
          refine ⟨_, rfl, s, _, _, _, rfl, rfl, SqL.of upd_same, atI_nat (j := 1) rfl, _, rfl, _, _, rfl, rfl, ⟨by omega, by omega⟩, _, rfl, s, _, 1, 1, rfl, rfl, upd_same, rfl, ?_⟩
          exact ⟨_, rfl, fin _ _ _ (hZ) (by omega) upd_same (fun b o hb hn => by rw [upd_ne hn, upd_ne hn]; exact hb)⟩
        · refine iteND h2 ?_
          refine ⟨_, rfl, _, rfl, s, _, 1, 1, rfl, rfl, hs, rfl, ?_⟩
          refine ⟨_, rfl, _, _, rfl, rfl, _, rfl, s, _, 2, 2, rfl, rfl, upd_same, rfl, ?_⟩
          refine ⟨_, rfl, s, _, _, _, rfl, rfl, SqL.of upd_same, atI_nat (j := 1) rfl, .inl ⟨_, rfl, _, rfl, _, _, rfl, rfl, (by omega), ?_⟩⟩
          refine ⟨_, rfl, s, _, _, _, rfl, rfl, SqL.of upd_same, atI_nat (j := 1) rfl, _, rfl, _, _, rfl, rfl, ⟨by omega, by omega⟩, _, rfl, s, _, 1, 1, rfl, rfl, upd_same, rfl, ?_⟩
          exact ⟨_, rfl, fin _ _ _ (hX) (by omega) upd_same (fun b o hb hn => by rw [upd_ne hn, upd_ne hn]; exact hb)⟩
      · refine iteND h1 ?_
        have hX : 0 ≤ (7 + k) := by omega
        refine ⟨_, rfl, _, _, rfl, rfl, ⟨by decide, by decide, by decide⟩, _, _, rfl, rfl, _, rfl, ?_⟩
        by_cases h2 : ((7 + k)) < (10 : Int) ^ (18 : Int).toNat
        · refine iteD h2 ?_
          refine ⟨_, rfl, _, _, rfl, rfl, .inr ⟨by decide, by decide⟩, _, rfl, _, _, rfl, rfl, .inr ⟨by decide, by decide⟩, _, _, rfl, rfl, _, _, rfl, rfl, .inl ⟨_, rfl, _, _, rfl, rfl, (by show (0 : Int) < 2147483647; decide), ?_⟩⟩
          have hY : 0 ≤ (((7 + k)) * 48271 + k * 69621 + 11) % 2147483647 := Int.emod_nonneg _ (by decide)
          refine ⟨_, rfl, _, _, rfl, rfl, .inr ⟨by decide, by decide⟩, _, _, rfl, rfl, .inl ⟨_, rfl, _, _, rfl, rfl, (by show (0 : Int) < 2147483647; decide), _, _, rfl, rfl, .inr ⟨by decide, by decide⟩, _, rfl, _, _, rfl, rfl, ?_⟩⟩
          have hZ : 0 ≤ (((((7 + k)) * 48271 + k * 69621 + 11) % 2147483647) * 16807 + 13) % 2147483647 * 65537 + ((((7 + k)) * 48271 + k * 69621 + 11) % 2147483647) := by
            have q : 0 ≤ (((((7 + k)) * 48271 + k * 69621 + 11) % 2147483647) * 16807 + 13) % 2147483647 := Int.emod_nonneg _ (by decide)
            omega
          refine ⟨_, rfl, _, rfl, s, _, 1, 1, rfl, rfl, hs, rfl, ?_⟩
          refine ⟨_, rfl, _, _, rfl, rfl, _, rfl, s, _, 2, 2, rfl, rfl, upd_same, rfl, ?_⟩
          refine ⟨_, rfl, s, _, _, _, rfl, rfl, SqL.of upd_same, atI_nat (j := 1) rfl, .inl ⟨_, rfl, _, rfl, _, _, rfl, rfl, (by omega), ?_⟩⟩
          refine ⟨_, rfl, s, _, _, _, rfl, rfl, SqL.of upd_same, atI_nat (j := 1) rfl, _, rfl, _, _, rfl, rfl, ⟨by omega, by omega⟩, _, rfl, s, _, 1, 1, rfl, rfl, upd_same, rfl, ?_⟩
          exact ⟨_, rfl, fin _ _ _ (hZ) (by omega) upd_same (fun b o hb hn => by rw [upd_ne hn, upd_ne hn]; exact hb)⟩
        · refine iteND h2 ?_
          refine ⟨_, rfl, _, rfl, s, _, 1, 1, rfl, rfl, hs, rfl, ?_⟩
          refine ⟨_, rfl, _, _, rfl, rfl, _, rfl, s, _, 2, 2, rfl, rfl, upd_same, rfl, ?_⟩
          refine ⟨_, rfl, s, _, _, _, rfl, rfl, SqL.of upd_same, atI_nat (j := 1) rfl, .inl ⟨_, rfl, _, rfl, _, _, rfl, rfl, (by omega), ?_⟩⟩
          refine ⟨_, rfl, s, _, _, _, rfl, rfl, SqL.of upd_same, atI_nat (j := 1) rfl, _, rfl, _, _, rfl, rfl, ⟨by omega, by omega⟩, _, rfl, s, _, 1, 1, rfl, rfl, upd_same, rfl, ?_⟩
          exact ⟨_, rfl, fin _ _ _ (hX) (by omega) upd_same (fun b o hb hn => by rw [upd_ne hn, upd_ne hn]; exact hb)⟩
    · refine iteND (fun e => h0 (by injection e)) ?_
      refine ⟨_, rfl, s, _, _, _, rfl, rfl, SqL.of hs, atI_nat (j := 1) rfl, .inl ⟨_, rfl, _, rfl, _, _, rfl, rfl, (by omega), ?_⟩⟩
      refine ⟨_, rfl, s, _, _, _, rfl, rfl, SqL.of hs, atI_nat (j := 1) rfl, _, rfl, _, _, rfl, rfl, ⟨by omega, by omega⟩, _, rfl, s, _, 1, 1, rfl, rfl, hs, rfl, ?_⟩
      exact ⟨_, rfl, fin _ _ _ (hcur) (hk) hs (fun b o hb _ => hb)⟩
end
end Kt
namespace Kt
open PySem PySem.Spec PyProof.Rows L2
section
variable {X : Cx}
theorem range_eq (n : Nat) : rgV 0 (n : Int) = natsV (List.range n) := by
  unfold rgV natsV
  rw [show ((n : Int) - 0).toNat = n by omega]
  apply List.map_congr_left
  intro i _
  rw [Int.zero_add]
end
theorem seq_at {d : Int} {n : Nat} (h0 : 0 ≤ d) (h1 : d < n) : seqIndex? d n = some d.toNat := by
  have e : ixN n d = some d.toNat := by
    unfold ixN
    rw [if_pos h0, if_pos h1]
  exact (ixN_seq e).1
theorem erase_perm : ∀ {ls : List Nat} {k y : Nat}, ls[k]? = some y → (y :: ls.eraseIdx k).Perm ls
  | [], _, _, h => by simp at h
  | a :: l, 0, y, h => by
    obtain rfl := Option.some.inj h
    exact List.Perm.refl _
  | a :: l, k + 1, y, h => by
    have ih := erase_perm (ls := l) (k := k) (y := y) h
    show (y :: a :: l.eraseIdx k).Perm (a :: l)
    exact (List.Perm.swap a y _).trans (ih.cons a)
theorem move_perm {fs ls : List Nat} {k y : Nat} {R : List Nat} (h : (fs ++ ls).Perm R) (hy : ls[k]? = some y) : ((fs ++ [y]) ++ ls.eraseIdx k).Perm R := by
  have e : (fs ++ [y]) ++ ls.eraseIdx k = fs ++ (y :: ls.eraseIdx k) := by simp
  rw [e]
  exact (List.Perm.append_left fs (erase_perm hy)).trans h
theorem erase_map (ls : List Nat) (k : Nat) : (natsV ls).eraseIdx k = natsV (ls.eraseIdx k) := by
  unfold natsV
  induction ls generalizing k with
  | nil => rfl
  | cons a l ih =>
    cases k with
    | zero => rfl
    | succ k =>
      show V.int (a : Nat) :: (l.map _).eraseIdx k = _
      rw [ih]
      rfl
section
variable {P : Program} {w : World} {K : PySem.W.Frag} {mg : Str → Option Value} {base : Heap}
abbrev nShuf : List Str := ["_law_stream_here", "_law_many", "_law_left", "_law_found", "_law_turn"]
def spShuf : Sp := fun vs H Q _ => ∃ s c, ∃ n : Nat, vs = [.ref s, .int (n : Int)] ∧ StreamV H s c ∧ n ≤ 8 ∧ ∀ l (ps : List Nat) H', ps.Perm (List.range n) → StreamV H' s c → Keep s H H' → H l = none → H' l = some (.lst (natsV ps)) → Q (.ref l) H'
theorem scShuf : FnScope nShuf ["_law_stream_here", "_law_many"] (defScope sShuf) := ⟨rfl, rfl, rfl, by decide +kernel, rfl, by decide +kernel, by decide +kernel⟩
theorem ok_shuf {f : Addr} {fd : FuncData} (F : Fun K "_law_shuffled" "_law_shuffled" sShuf f fd) (B : Blt mg) (HN : Has P w K mg base CX0 1 "_law_next" ["_law_stream_here", "_law_many"] spNext) :
    FnOk P w K mg base CX0 2 f fd ["_law_stream_here", "_law_many"] spShuf := by
  obtain ⟨fN, fdN, GN, mN, kN, bN⟩ := HN
  refine F.ok scShuf (fun vs H Q E h => ?_) (fun cdv A outer s H vs Q E hr h => ?_)
  · obtain ⟨s, c, n, rfl, _⟩ := h
    rfl
  · refine ⟨_, pss_cons (ps_set (i := 2) scShuf.nd rfl (Or.inl rfl) (pe_listRg (by rfl) (by rfl) B.list (prg_1 (by rfl) B.range (pv 1))))
      (pss_cons (ps_set (i := 3) scShuf.nd rfl (Or.inl rfl) (pe_lst pa_nil))
      (pss_cons (ps_for PassesOwn.never rfl (pi_range1 (by rfl) B.range (pa_cons (pv 1) pa_nil)) (pg_name (i := 4) scShuf.nd rfl (Or.inl rfl))
        (pss_one (ps_expr (pe_bm PySem.F.plainAttrs_list PySem.F.slot_list_append PySem.F.type_list_append mt_append (pv 3) (pa_cons
          (pe_bm PySem.F.plainAttrs_list PySem.F.slot_list_pop PySem.F.type_list_pop mt_popAt (pv 2) (pa_cons
            (pe_call GN hr (by rfl) mN kN bN .nil pass0 (pa_cons (pv 0) (pa_cons (pe_callB call_len (by rfl) B.len PySem.boot_len (pa_cons (pv 2) pa_nil)) pa_nil))) pa_nil)) pa_nil)))))
      (pss_one (ps_ret (pv 3))))), ?_⟩
    obtain ⟨s, c, n, rfl, hS, hn8, k⟩ := h
    refine ⟨_, rfl, _, rfl, ⟨by omega, by omega, by omega, by omega, by omega⟩, fun lq hlq => ?_⟩
    rw [range_eq]
    refine ⟨by show 0 ≤ sizeLine; omega, fun fq hfq => ?_⟩
    have s1 := same_new (o := HO.lst (natsV (List.range n))) hlq
    have s2 := same_new (o := HO.lst []) hfq
    have s12 := s1.trans s2
    obtain ⟨sx, hsx⟩ := hS.lst
    have nls : lq ≠ s := (ne_of_none hsx hlq).symm
    have nfs : fq ≠ s := (ne_of_none (s1 _ _ hsx) hfq).symm
    obtain ⟨cx, hcx⟩ := hS.cells
    have ncl : c ≠ lq := ne_of_none hcx hlq
    have ncf : c ≠ fq := ne_of_none (s1 _ _ hcx) hfq
    have nlf : lq ≠ fq := ne_of_none upd_same hfq
    refine ⟨_, rfl, (n : Int), rfl, by omega, by omega, for_range (lo := 0) (n := n) (fun i σ H' => ∃ (ls fs : List Nat) (v : Option V), σ = [some (.ref s), some (.int (n : Int)), some (.ref lq), some (.ref fq), v] ∧ StreamV H' s c ∧ Keep s H H' ∧ H' lq = some (.lst (natsV ls)) ∧ H' fq = some (.lst (natsV fs)) ∧ ls.length + i = n ∧ fs.length = i ∧ (fs ++ ls).Perm (List.range n))
      ⟨List.range n, [], none, rfl, hS.same s12, Same.keep s12, s2 _ _ upd_same, upd_same, by rw [List.length_range]; rfl, rfl, List.Perm.refl _⟩ ?_ ?_⟩
    · rintro i σ H' hi ⟨ls, fs, v, rfl, hS', hK', hl', hf', hll, hfl, hp⟩
      refine ⟨_, rfl, .inl ⟨rfl, _, SqL.of hf'⟩, _, rfl, .inl ⟨rfl, _, SqL.of hl'⟩, _, rfl, _, rfl, _, _, rfl, .inl ⟨_, SqL.of hl', rfl⟩, ?_⟩
      have hlen : ((natsV ls).length : Int) = (ls.length : Int) := by unfold natsV; rw [List.length_map]
      refine ⟨s, c, _, rfl, hS', by rw [hlen]; omega, by rw [hlen]; omega, fun d H2 hd0 hd1 hS2 hK2 => ?_⟩
      rw [hlen] at hd1
      have hdl : d.toNat < ls.length := by omega
      have hy : ls[d.toNat]? = some ls[d.toNat] := List.getElem?_eq_getElem hdl
      have hyV : (natsV ls)[d.toNat]? = some (V.int (ls[d.toNat] : Nat)) := by unfold natsV; rw [List.getElem?_map, hy]; rfl
      have hl2 := hK2 _ _ hl' nls
      have hf2 := hK2 _ _ hf' nfs
      refine ⟨lq, _, d, d.toNat, _, rfl, rfl, hl2, by omega, by omega, by unfold natsV; rw [List.length_map]; exact seq_at hd0 hd1, hyV, ?_⟩
      refine ⟨fq, _, _, rfl, rfl, by rw [upd_ne nlf.symm]; exact hf2, by unfold natsV; rw [List.length_map]; exact lt_line (by omega), ?_⟩
      refine ⟨ls.eraseIdx d.toNat, fs ++ [ls[d.toNat]], _, rfl, hS2.but (fun o q => ?_) (fun o q => ?_), fun b o hb hne => ?_, ?_, ?_, ?_, ?_, move_perm hp hy⟩
      · rw [upd_ne nfs.symm, upd_ne nls.symm]
        exact q
      · rw [upd_ne ncf, upd_ne ncl]
        exact q
      · have nb1 : b ≠ lq := ne_of_none hb hlq
        have nb2 : b ≠ fq := ne_of_none (s1 _ _ hb) hfq
        rw [upd_ne nb2, upd_ne nb1]
        exact hK2 _ _ (hK' _ _ hb hne) hne
      · rw [upd_ne nlf, upd_same, erase_map]
      · rw [upd_same]
        unfold natsV
        rw [List.map_append]
        rfl
      · rw [List.length_eraseIdx, if_pos hdl]
        omega
      · rw [List.length_append, hfl]
        rfl
    · rintro σ H' ⟨ls, fs, v, rfl, hS', hK', hl', hf', hll, hfl, hp⟩
      have e0 : ls = [] := List.length_eq_zero_iff.mp (by omega)
      subst e0
      rw [List.append_nil] at hp
      exact ⟨_, rfl, k fq fs H' hp hS' hK' (Same.free s1 hfq) hf'⟩
end
end Kt
namespace Kt
open PySem PySem.Spec PyProof.Rows L2
/-! ### names of the law's pools -/
def okB (x : Str) : Bool := decide (1 ≤ x.length) && decide (x.length ≤ 8) && x.cps.toList.all fun c => alphabet.cps.toList.contains c
theorem okB_ok {x : Str} (h : okB x = true) : OkName x := by
  unfold okB at h
  simp only [Bool.and_eq_true, decide_eq_true_eq, List.all_eq_true, List.contains_iff_mem] at h
  exact ⟨h.1.1, h.1.2, h.2⟩
def pool1 : List Str := ["a", "elegy", "march", "zzzzzzzz", "b", "waltz", "song", "ada"]
def pool2 : List Str := ["ada", "bob", "cyd", "a", "dan", "eve", "fay", "gus", "hal", "ida"]
theorem pool1_ok : ∀ x ∈ pool1, OkName x := by
  have h : pool1.all okB = true := by decide +kernel
  intro x hx
  exact okB_ok (List.all_eq_true.mp h x hx)
theorem pool2_ok : ∀ x ∈ pool2, OkName x := by
  have h : pool2.all okB = true := by decide +kernel
  intro x hx
  exact okB_ok (List.all_eq_true.mp h x hx)
theorem pool1_nd : pool1.Nodup := by decide +kernel
/-! ### what is kept beside the stream -/
theorem rd_keep {s : Addr} {H H' : Hp} {xs ys : List V} {a : Addr} (k : Keep s H H') (h : H s = some (.lst xs)) (q : Rd H a (.tup ys)) : Rd H' a (.tup ys) := by
  rcases q with q | ⟨o, q⟩
  · exact .inl (k _ _ q (ne_of q h (by intro z; cases z)))
  · exact .inr ⟨o, k _ _ q (ne_of q h (by intro z; cases z))⟩
theorem NamT.keep {s : Addr} {H H' : Hp} {xs : List V} {v : V} {ns : List Str} (k : Keep s H H') (h : H s = some (.lst xs)) (q : NamT H v ns) : NamT H' v ns := let ⟨a, e, q⟩ := q; ⟨a, e, rd_keep k h q⟩
theorem FrzT.keep {s : Addr} {H H' : Hp} {xs : List V} {v : V} {ns : List Str} (k : Keep s H H') (h : H s = some (.lst xs)) (q : FrzT H v ns) : FrzT H' v ns := let ⟨a, o, e, q, d⟩ := q; ⟨a, o, e, k _ _ q (ne_of q h (by intro z; cases z)), d⟩
theorem nodup_pick {l : List Str} {d : Str} (hn : l.Nodup) : ∀ {qs : List Nat}, qs.Nodup → (∀ j ∈ qs, j < l.length) → (qs.map fun j => l.getD j d).Nodup
  | [], _, _ => List.nodup_nil
  | q :: r, h, hl => by
    obtain ⟨h1, h2⟩ := List.nodup_cons.mp h
    refine List.nodup_cons.mpr ⟨fun hm => ?_, nodup_pick hn h2 fun j hj => hl j (List.mem_cons_of_mem _ hj)⟩
    obtain ⟨j, hj, e⟩ := List.mem_map.mp hm
    have e : l.getD j d = l.getD q d := e
    have l1 := hl q List.mem_cons_self
    have l2 := hl j (List.mem_cons_of_mem _ hj)
    have e1 : l[j]? = some (l.getD q d) := by
      rw [← e, List.getD_eq_getElem?_getD, List.getElem?_eq_getElem l2]
      rfl
    have e2 : l[q]? = some (l.getD q d) := by
      rw [List.getD_eq_getElem?_getD, List.getElem?_eq_getElem l1]
      rfl
    have := nd_ix hn e1 e2
    subst this
    exact h1 hj
theorem getD_at {l : List Str} {d : Str} {j : Nat} (h : j < l.length) : l[j]? = some (l.getD j d) := by
  rw [List.getD_eq_getElem?_getD, List.getElem?_eq_getElem h]
  rfl
theorem getD_mem {l : List Str} {d : Str} {j : Nat} (h : j < l.length) : l.getD j d ∈ l := List.mem_of_getElem? (getD_at (d := d) h)
theorem perm_lt {ps : List Nat} {n : Nat} (h : ps.Perm (List.range n)) : ∀ j ∈ ps, j < n := fun j hj => List.mem_range.mp (h.mem_iff.mp hj)
theorem perm_nd {ps : List Nat} {n : Nat} (h : ps.Perm (List.range n)) : ps.Nodup := h.nodup_iff.mpr List.nodup_range
section
variable {P : Program} {w : World} {K : PySem.W.Frag} {mg : Str → Option Value} {base : Heap}
theorem nat_at {qs : List Nat} {i : Nat} {y : V} (h : (natsV qs)[i]? = some y) : ∃ j, qs[i]? = some j ∧ y = .int (j : Nat) := by
  unfold natsV at h
  rw [List.getElem?_map] at h
  cases e : qs[i]? with
  | none => rw [e] at h; cases h
  | some j => rw [e] at h; exact ⟨j, rfl, (Option.some.inj h).symm⟩
theorem str_ix {l : List Str} {d : Int} (h0 : 0 ≤ d) (h1 : d < l.length) : ∃ x ∈ l, atI (l.map V.str) d = some (.str x) := by
  have hj : d.toNat < l.length := by omega
  refine ⟨l[d.toNat], List.getElem_mem hj, at_of (j := d.toNat) (by omega) ?_⟩
  rw [List.getElem?_map, List.getElem?_eq_getElem hj]
  rfl
theorem getD_ix {l : List Str} {d : Str} {j : Nat} (h : j < l.length) : atI (l.map V.str) (j : Int) = some (.str (l.getD j d)) := by
  refine atI_nat ?_
  rw [List.getElem?_map, getD_at (d := d) h]
  rfl
abbrev nWords : List Str := ["_law_stream_here", "_law_size", "_law_pool", "_law_at"]
def spWords : Sp := fun vs H Q _ => ∃ s c, ∃ m : Nat, vs = [.ref s, .int (m : Int)] ∧ StreamV H s c ∧ m ≤ 8 ∧ ∀ v ns H', FrzT H' v ns → (∀ x ∈ ns, OkName x) → ns.Nodup → ns.length = m → StreamV H' s c → Keep s H H' → Q v H'
theorem scWords : FnScope nWords ["_law_stream_here", "_law_size"] (defScope sWords) := ⟨rfl, rfl, rfl, by decide +kernel, rfl, by decide +kernel, by decide +kernel⟩
theorem ok_words {f : Addr} {fd : FuncData} (F : Fun K "_law_words" "_law_words" sWords f fd) (B : Blt mg) (HS : Has P w K mg base CX0 2 "_law_shuffled" ["_law_stream_here", "_law_many"] spShuf) :
    FnOk P w K mg base CX0 3 f fd ["_law_stream_here", "_law_size"] spWords := by
  obtain ⟨fS, fdS, GS, mS, kS, bS⟩ := HS
  refine F.ok scWords (fun vs H Q E h => ?_) (fun cdv A outer s H vs Q E hr h => ?_)
  · obtain ⟨s, c, m, rfl, _⟩ := h
    rfl
  · refine ⟨_, pss_cons (ps_set (i := 2) scWords.nd rfl (Or.inr rfl) (pe_lst (pa_cons pe_str (pa_cons pe_str (pa_cons pe_str (pa_cons pe_str (pa_cons pe_str (pa_cons pe_str (pa_cons pe_str (pa_cons pe_str pa_nil))))))))))
      (pss_one (ps_ret (pe_callTy (call_tupleF K) (by rfl) B.tuple boot_tuple (pa_cons
        (pe_lc (own := [("_law_at", 3)]) (g := gName 3) (tt := tYes) (by rfl) scWords.nd (pi_list (pe_slice sl_list (pe_call GS hr (by rfl) mS kS bS .nil pass0 (pa_cons (pv 0) (pa_cons pe_int pa_nil))) po_none (po_some (pv 1)))) (blkOk_by (own := [("_law_at", 3)]) (N := nWords) (sc := defScope sWords) (by decide +kernel))
          (fun _ _ _ _ _ => pg_name (i := 3) scWords.nd rfl (Or.inl rfl)) (fun _ _ _ _ _ => pts_nil)
          (fun _ _ _ _ _ => pe_ix (ix_listK K) (pv 2) (pv 3) (fun _ _ => rfl))) pa_nil)))), ?_⟩
    obtain ⟨s, c, m, rfl, hS, hm, k⟩ := h
    refine ⟨by show 8 ≤ sizeLine; decide, fun pl hpl => ?_⟩
    have s1 := same_new (o := HO.lst (pool1.map V.str)) hpl
    obtain ⟨sx, hsx⟩ := hS.lst
    have nps : pl ≠ s := (ne_of_none hsx hpl).symm
    refine ⟨_, rfl, s, c, 8, rfl, hS.same s1, by omega, fun l ps H2 hp hS2 hK2 hl2 hlp => ?_⟩
    have hpl2 : H2 pl = some (.lst (pool1.map V.str)) := hK2 _ _ upd_same nps
    refine ⟨_, rfl, (m : Int), rfl, l, _, rfl, SqL.of hlp, fun cl hcl => ?_⟩
    rw [cut_to (by unfold natsV; rw [List.length_map, hp.length_eq, List.length_range]; exact hm)]
    have s3 := same_new (o := HO.lst ((natsV ps).take m)) hcl
    have hpsl : ps.length = 8 := by rw [hp.length_eq, List.length_range]
    have etk : (natsV ps).take m = natsV (ps.take m) := by
      unfold natsV
      rw [List.map_take]
    rw [etk] at s3 ⊢
    have hsub : ∀ j ∈ ps.take m, j < pool1.length := fun j hj => perm_lt hp j (List.mem_of_mem_take hj)
    generalize hH3 : upd H2 cl (.lst (natsV (ps.take m))) = H3 at s3
    have hcl3 : H3 cl = some (.lst (natsV (ps.take m))) := by rw [← hH3]; exact upd_same
    have hpl3 := s3 _ _ hpl2
    refine ⟨cl, rfl, ⟨_, SqL.of hcl3⟩, fun D hD => lc_it (walk_list (K := K) (a := cl) (xs := natsV (ps.take m))) (fun i H' => Same H3 H' ∧ H' D = some (.lst ((((ps.take m).take i).map fun j => pool1.getD j "").map V.str))) ⟨same_new hD, upd_same⟩ (fun i H' _ p => SqL.of (p.1 _ _ hcl3)) ?_ ?_⟩
    · rintro i y H' H'' hi ⟨s', hD'⟩ ⟨rfl, hy⟩
      obtain ⟨j, hj, rfl⟩ := nat_at hy
      have hi' : i < (ps.take m).length := (List.getElem?_eq_some_iff.mp hj).1
      have hi8 : (ps.take m).length ≤ 8 := by rw [List.length_take]; omega
      refine ⟨rfl, _, rfl, _, rfl, pl, _, _, _, rfl, rfl, SqL.of (s' _ _ hpl3), getD_ix (d := "") (hsub j (List.mem_of_getElem? hj)), _, hD', ?_, same_upd hD s', ?_⟩
      · rw [List.length_map, List.length_map, List.length_take]
        exact lt_line (by omega)
      · rw [upd_same, take_more hj, List.map_append, List.map_append]
        rfl
    · rintro H' ⟨s', hD'⟩
      have el : (natsV (ps.take m)).length = (ps.take m).length := by unfold natsV; rw [List.length_map]
      rw [el, List.take_length] at hD'
      refine ⟨D, _, rfl, SqL.of hD', fun l2 o hl2' ho => ?_⟩
      have s4 := same_new (o := HO.frz o (.tup (((ps.take m).map fun j => pool1.getD j "").map V.str))) hl2'
      have sE := s3.trans (s'.trans s4)
      refine k _ ((ps.take m).map fun j => pool1.getD j "") _ ⟨l2, o, rfl, upd_same, ho⟩ (fun x hx => ?_) (nodup_pick pool1_nd ((List.take_sublist _ _).nodup (perm_nd hp)) hsub) ?_ (hS2.same sE) (((Same.keep s1).trans hK2).trans (Same.keep sE))
      · obtain ⟨j, hj, rfl⟩ := List.mem_map.mp hx
        exact pool1_ok _ (getD_mem (hsub j hj))
      · rw [List.length_map, List.length_take]
        omega
abbrev nCommand : List Str := ["_law_stream_here", "_law_names", "_law_sets", "_law_pool", "_law_name", "_law_pick", "_law_size", "_law_chosen", "_law_at"]
def spCommand : Sp := fun vs H Q _ => ∃ s c nv ns sa svs L, vs = [.ref s, nv, .ref sa] ∧ StreamV H s c ∧ NamT H nv ns ∧ 1 ≤ ns.length ∧ ns.length ≤ 8 ∧ ns.Nodup ∧ H sa = some (.lst svs) ∧ Paired (PairV H) svs L ∧ sa ≠ s ∧ L.length ≤ 100 ∧ (∀ p ∈ L, OkName p.1) ∧
  ∀ v cmd H', CmdV H' v cmd → OkCmd ns cmd → StreamV H' s c → Keep s H H' → Q v H'
theorem scCommand : FnScope nCommand ["_law_stream_here", "_law_names", "_law_sets"] (defScope sCommand) := ⟨rfl, rfl, rfl, by decide +kernel, rfl, by decide +kernel, by decide +kernel⟩
theorem ok_command {f : Addr} {fd : FuncData} (F : Fun K "_law_command" "_law_command" sCommand f fd) (B : Blt mg) (HN : Has P w K mg base CX0 1 "_law_next" ["_law_stream_here", "_law_many"] spNext) (HS : Has P w K mg base CX0 2 "_law_shuffled" ["_law_stream_here", "_law_many"] spShuf) :
    FnOk P w K mg base CX0 3 f fd ["_law_stream_here", "_law_names", "_law_sets"] spCommand := by
  obtain ⟨fN, fdN, GN, mN, kN, bN⟩ := HN
  obtain ⟨fS, fdS, GS, mS, kS, bS⟩ := HS
  refine F.ok scCommand (fun vs H Q E h => ?_) (fun cdv A outer s0 H vs Q E hr h => ?_)
  · obtain ⟨s, c, nv, ns, sa, svs, L, rfl, _⟩ := h
    rfl
  · have hr1 : Room 1 _ := hr.mono (by decide)
    obtain ⟨s, c, nv, ns, sa, svs, L, rfl, hS, hn, hn1, hn8, hnd, hsa, hL, nas, hL1, hok, k⟩ := h
    obtain ⟨sx, hsx⟩ := hS.lst
    have tail : ∃ t, PSs (cxOf CX0 P w K mg base nCommand "_law_command" (defScope sCommand) f cdv A outer s0 H E).nox ((defBody sCommand).drop 3) t ∧ ∀ (pl : Addr) (x : Str) (H2 : Hp), OkName x → StreamV H2 s c → Keep s H H2 → H2 pl = some (.lst (pool2.map V.str)) → pl ≠ s → H pl = none →
        t { nx := fun _ H' => Q .non H', rt := Q } [some (.ref s), some nv, some (.ref sa), some (.ref pl), some (.str x), none, none, none, none] H2 := by
      refine ⟨_, pss_cons (ps_set (i := 5) scCommand.nd rfl (Or.inl rfl) (pe_call GN hr1 (by rfl) mN kN bN .nil pass0 (pa_cons (pv 0) (pa_cons pe_int pa_nil))))
        (pss_cons (ps_if (pt_cmpR op_lt (pv 5) pe_int (nomark _)) (pss_cons (ps_set (i := 6) scCommand.nd rfl (Or.inl rfl) (pe_call GN hr1 (by rfl) mN kN bN .nil pass0 (pa_cons (pv 0) (pa_cons (pe_op op_add (pe_callB call_len (by rfl) B.len PySem.boot_len (pa_cons (pv 1) pa_nil)) pe_int) pa_nil))))
        (pss_cons (ps_setLc (i := 7) (own := [("_law_at", 8)]) (g := gName 8) (tt := tYes) (by rfl) scCommand.nd rfl rfl (sw_true rfl rfl rfl (by decide +kernel)) (pi_list (pe_slice sl_list (pe_call GS hr (by rfl) mS kS bS .nil pass0 (pa_cons (pv 0) (pa_cons (pe_callB call_len (by rfl) B.len PySem.boot_len (pa_cons (pv 1) pa_nil)) pa_nil))) po_none (po_some (pv 6)))) (blkOk_by (own := [("_law_at", 8)]) (N := nCommand) (sc := defScope sCommand) (by decide +kernel))
            (fun _ _ _ _ _ => pg_name (i := 8) scCommand.nd rfl (Or.inl rfl)) (fun _ _ _ _ _ => pts_nil)
            (fun _ _ _ _ _ => pe_ix (ix_tupK K) (pv 1) (pv 8) (fun _ _ => rfl)))
        (pss_one (ps_ret (pe_tup (pa_cons pe_str (pa_cons (pe_ix ix_list (pv 3) (pe_call GN hr1 (by rfl) mN kN bN .nil pass0 (pa_cons (pv 0) (pa_cons pe_int pa_nil))) (fun _ _ => rfl)) (pa_cons (pe_callTy call_tuple_of (by rfl) B.tuple boot_tuple (pa_cons (pv 7) pa_nil)) pa_nil)))))))) pss_nil)
        (pss_cons (ps_if (pt_cmpR op_eq (pv 5) pe_int (nomark _)) (pss_one (ps_ret (pe_tup (pa_cons pe_str (pa_cons (pv 4) pa_nil))))) pss_nil)
        (pss_one (ps_ret (pe_tup (pa_cons (pe_ix ix_list (pe_lst (pa_cons pe_str (pa_cons pe_str pa_nil))) (pe_op op_mod (pe_callTy call_int1 (by rfl) B.int boot_int (pa_cons (pv 5) pa_nil)) pe_int) (fun _ _ => rfl)) (pa_cons (pv 4) (pa_cons (pe_ix ix_tup (pv 1) (pe_call GN hr1 (by rfl) mN kN bN .nil pass0 (pa_cons (pv 0) (pa_cons (pe_callB call_len (by rfl) B.len PySem.boot_len (pa_cons (pv 1) pa_nil)) pa_nil))) (fun _ _ => rfl)) pa_nil)))))))), ?_⟩
      intro pl x H2 hx hS2 hK2 hpl npl hpl0
      obtain ⟨na, rfl, hna⟩ := hn
      have nlen : (ns.map V.str).length = ns.length := List.length_map _
      -- pick
      refine ⟨_, rfl, s, c, 10, rfl, hS2, by omega, by omega, fun d H3 hd0 hd1 hS3 hK3 => ?_⟩
      have hK03 := hK2.trans hK3
      have hpl3 := hK3 _ _ hpl npl
      have hna3 := rd_keep hK03 hsx hna
      refine ⟨_, rfl, _, _, rfl, rfl, _, rfl, ?_⟩
      by_cases hd5 : d < 5
      · refine iteD hd5 ?_
        -- size
        refine ⟨_, rfl, _, rfl, _, _, rfl, .inr ⟨_, .inl hna3, rfl⟩, _, _, rfl, rfl, s, c, _, rfl, hS3, by rw [nlen]; omega, by rw [nlen]; omega, fun d2 H4 h20 h21 hS4 hK4 => ?_⟩
        have hK04 := hK03.trans hK4
        have hpl4 := hK4 _ _ hpl3 npl
        have hna4 := rd_keep hK04 hsx hna
        obtain ⟨m, rfl⟩ : ∃ m : Nat, d2 = (m : Int) := ⟨d2.toNat, by omega⟩
        -- chosen
        refine ⟨_, rfl, _, rfl, _, _, rfl, .inr ⟨_, .inl hna4, rfl⟩, s, c, (ns.map V.str).length, rfl, hS4, by rw [nlen]; omega, fun l ps H5 hp hS5 hK5 hl5 hlp => ?_⟩
        rw [nlen] at hp h21
        have hm : m ≤ ns.length := by omega
        have hK05 := hK04.trans hK5
        have hpl5 := hK5 _ _ hpl4 npl
        have hna5 := rd_keep hK05 hsx hna
        refine ⟨_, rfl, (m : Int), rfl, l, _, rfl, SqL.of hlp, fun cl hcl => ?_⟩
        have hpsl : ps.length = ns.length := by rw [hp.length_eq, List.length_range]
        rw [cut_to (by unfold natsV; rw [List.length_map, hpsl]; exact hm)]
        have etk : (natsV ps).take m = natsV (ps.take m) := by
          unfold natsV
          rw [List.map_take]
        rw [etk]
        have s6 := same_new (o := HO.lst (natsV (ps.take m))) hcl
        have hsub : ∀ j ∈ ps.take m, j < ns.length := fun j hj => perm_lt hp j (List.mem_of_mem_take hj)
        generalize hH6 : upd H5 cl (.lst (natsV (ps.take m))) = H6 at s6
        have hcl6 : H6 cl = some (.lst (natsV (ps.take m))) := by rw [← hH6]; exact upd_same
        have hpl6 := s6 _ _ hpl5
        have hna6 := rd_same s6 hna5
        refine ⟨cl, rfl, ⟨_, SqL.of hcl6⟩, fun D hD => lc_it (walk_list (K := K) (a := cl) (xs := natsV (ps.take m))) (fun i H' => Same H6 H' ∧ H' D = some (.lst ((((ps.take m).take i).map fun j => ns.getD j "").map V.str))) ⟨same_new hD, upd_same⟩ (fun i H' _ p => SqL.of (p.1 _ _ hcl6)) ?_ ?_⟩
        · rintro i y H' H'' hi ⟨s', hD'⟩ ⟨rfl, hy⟩
          obtain ⟨j, hj, rfl⟩ := nat_at hy
          have hi' : i < (ps.take m).length := (List.getElem?_eq_some_iff.mp hj).1
          have hi8 : (ps.take m).length ≤ 8 := by rw [List.length_take]; omega
          refine ⟨rfl, _, rfl, _, rfl, na, _, _, _, rfl, rfl, .inl (rd_same s' hna6), getD_ix (d := "") (hsub j (List.mem_of_getElem? hj)), _, hD', ?_, same_upd hD s', ?_⟩
          · rw [List.length_map, List.length_map, List.length_take]
            exact lt_line (by omega)
          · rw [upd_same, take_more hj, List.map_append, List.map_append]
            rfl
        · rintro H7 ⟨s7, hD7⟩
          have el : (natsV (ps.take m)).length = (ps.take m).length := by unfold natsV; rw [List.length_map]
          rw [el, List.take_length] at hD7
          have s67 := s6.trans s7
          have hpl7 := s67 _ _ hpl5
          have nDs : D ≠ s := by
            obtain ⟨z, hz⟩ := hS5.lst
            exact (ne_of_none (s6 _ _ hz) hD).symm
          -- return ("add", pool[..], tuple(chosen))
          refine ⟨_, rfl, _, rfl, s, c, 10, rfl, hS5.same s67, by omega, by omega, fun d3 H8 h30 h31 hS8 hK8 => ?_⟩
          obtain ⟨nm, hnm, hix⟩ := str_ix (l := pool2) (d := d3) h30 (by show d3 < 10; exact h31)
          refine ⟨pl, _, _, _, rfl, rfl, SqL.of (hK8 _ _ hpl7 npl), hix, _, rfl, D, _, rfl, .inl ⟨SqL.of (hK8 _ _ hD7 nDs), fun l2 hl2 => ⟨by show 3 ≤ sizeLine; decide, fun t ht => ?_⟩⟩⟩
          have s9 := same_new (o := HO.tup (((ps.take m).map fun j => ns.getD j "").map V.str)) hl2
          have s10 := same_new (o := HO.tup [.str "add", .str nm, .ref l2]) ht
          have sE := s9.trans s10
          refine k _ (.add nm ((ps.take m).map fun j => ns.getD j "")) _ ⟨t, .ref l2, rfl, upd_same, l2, rfl, s10 _ _ upd_same⟩ ⟨pool2_ok _ hnm, nodup_pick hnd ((List.take_sublist _ _).nodup (perm_nd hp)) hsub, fun z hz => ?_, ?_⟩ (hS8.same sE) (((hK05.trans (Same.keep s67)).trans hK8).trans (Same.keep sE))
          · obtain ⟨j, hj, rfl⟩ := List.mem_map.mp hz
            exact getD_mem (hsub j hj)
          · rw [List.length_map, List.length_take]
            omega
      · refine iteND hd5 ?_
        refine ⟨_, rfl, rfl, _, rfl, ?_⟩
        by_cases hd5' : d = 5
        · refine iteD (by rw [hd5']) ?_
          refine ⟨_, rfl, by show 2 ≤ sizeLine; decide, fun t ht => ?_⟩
          have sE := same_new (o := HO.tup [.str "drop", .str x]) ht
          exact k _ (.drop x) _ ⟨t, rfl, upd_same⟩ hx (hS3.same sE) (hK03.trans (Same.keep sE))
        · refine iteND (fun e => hd5' (by injection e)) ?_
          refine ⟨by show 2 ≤ sizeLine; decide, fun pq hpq => ?_⟩
          have s4 := same_new (o := HO.lst [.str "put", .str "take"]) hpq
          have hmod : d % 2 = 0 ∨ d % 2 = 1 := by omega
          obtain ⟨sx3, hsx3⟩ := hS3.lst
          have npq : pq ≠ s := (ne_of_none hsx3 hpq).symm
          rcases hmod with hmod | hmod
          · refine ⟨_, rfl, .inl ⟨_, rfl, _, _, rfl, rfl, (by show (0 : Int) < 2; decide), pq, _, _, .str "put", rfl, rfl, SqL.of upd_same, at_of (j := 0) hmod rfl, ?_⟩⟩
            refine ⟨_, rfl, _, rfl, _, rfl, _, rfl, _, _, rfl, .inr ⟨_, .inl (rd_same s4 hna3), rfl⟩, s, c, _, rfl, hS3.same s4, by rw [nlen]; omega, by rw [nlen]; omega, fun d3 H5 h30 h31 hS5 hK5 => ?_⟩
            rw [nlen] at h31
            obtain ⟨e, he, hix⟩ := str_ix (l := ns) (d := d3) h30 h31
            have hK05 := (hK03.trans (Same.keep s4)).trans hK5
            refine ⟨na, _, _, _, rfl, rfl, .inl (rd_keep hK05 hsx hna), hix, by show 3 ≤ sizeLine; decide, fun t ht => ?_⟩
            have sE := same_new (o := HO.tup [.str "put", .str x, .str e]) ht
            exact k _ (.put x e) _ ⟨t, rfl, upd_same⟩ ⟨hx, he⟩ (hS5.same sE) (hK05.trans (Same.keep sE))
          · refine ⟨_, rfl, .inl ⟨_, rfl, _, _, rfl, rfl, (by show (0 : Int) < 2; decide), pq, _, _, .str "take", rfl, rfl, SqL.of upd_same, at_of (j := 1) hmod rfl, ?_⟩⟩
            refine ⟨_, rfl, _, rfl, _, rfl, _, rfl, _, _, rfl, .inr ⟨_, .inl (rd_same s4 hna3), rfl⟩, s, c, _, rfl, hS3.same s4, by rw [nlen]; omega, by rw [nlen]; omega, fun d3 H5 h30 h31 hS5 hK5 => ?_⟩
            rw [nlen] at h31
            obtain ⟨e, he, hix⟩ := str_ix (l := ns) (d := d3) h30 h31
            have hK05 := (hK03.trans (Same.keep s4)).trans hK5
            refine ⟨na, _, _, _, rfl, rfl, .inl (rd_keep hK05 hsx hna), hix, by show 3 ≤ sizeLine; decide, fun t ht => ?_⟩
            have sE := same_new (o := HO.tup [.str "take", .str x, .str e]) ht
            exact k _ (.take x e) _ ⟨t, rfl, upd_same⟩ ⟨hx, he⟩ (hS5.same sE) (hK05.trans (Same.keep sE))
    obtain ⟨t, ht, read⟩ := tail
    refine ⟨_, pss_cons (ps_set (i := 3) scCommand.nd rfl (Or.inl rfl) (pe_lst (pa_cons pe_str (pa_cons pe_str (pa_cons pe_str (pa_cons pe_str (pa_cons pe_str (pa_cons pe_str (pa_cons pe_str (pa_cons pe_str (pa_cons pe_str (pa_cons pe_str pa_nil))))))))))))
      (pss_cons (ps_set (i := 4) scCommand.nd rfl (Or.inl rfl) (pe_ix ix_list (pv 3) (pe_call GN hr1 (by rfl) mN kN bN .nil pass0 (pa_cons (pv 0) (pa_cons pe_int pa_nil))) (fun _ _ => rfl)))
      (pss_cons (ps_if (PW.pt (pw_and (pt_truth (pv 2) (by intro _; rfl)) (pw_and1 (pt_cmpR op_gt (pe_call GN hr1 (by rfl) mN kN bN .nil pass0 (pa_cons (pv 0) (pa_cons pe_int pa_nil))) pe_int (nomark _))))) (pss_one (ps_set (i := 4) scCommand.nd rfl (Or.inl rfl) (pe_ix ix_tup (pe_ix ix_list (pv 2) (pe_call GN hr1 (by rfl) mN kN bN .nil pass0 (pa_cons (pv 0) (pa_cons (pe_callB call_len (by rfl) B.len PySem.boot_len (pa_cons (pv 2) pa_nil)) pa_nil))) (fun _ _ => rfl)) pe_int (fun _ _ => rfl)))) pss_nil)
      ht)), ?_⟩
    refine ⟨by show 10 ≤ sizeLine; decide, fun pl hpl => ?_⟩
    have s1 := same_new (o := HO.lst (pool2.map V.str)) hpl
    have npl : pl ≠ s := (ne_of_none hsx hpl).symm
    refine ⟨_, rfl, _, rfl, s, c, 10, rfl, hS.same s1, by omega, by omega, fun d H2 hd0 hd1 hS2 hK2 => ?_⟩
    have hpl2 : H2 pl = some (.lst (pool2.map V.str)) := hK2 _ _ upd_same npl
    have hK02 := (Same.keep s1).trans hK2
    obtain ⟨x, hx, hix⟩ := str_ix (l := pool2) (d := d) hd0 (by show d < 10; exact hd1)
    refine ⟨pl, _, _, _, rfl, rfl, SqL.of hpl2, hix, ?_⟩
    have hsa2 := hK02 _ _ hsa nas
    refine ⟨_, rfl, _, .inl ⟨_, SqL.of hsa2, rfl⟩, ?_⟩
    cases svs with
    | nil => exact read pl x H2 (pool2_ok _ hx) hS2 hK02 hpl2 npl hpl
    | cons sv svr =>
      refine iteT ?_
      refine ⟨_, rfl, s, c, 3, rfl, hS2, by omega, by omega, fun d2 H3 h20 h21 hS3 hK3 => ?_⟩
      have hK03 := hK02.trans hK3
      have hpl3 := hK3 _ _ hpl2 npl
      refine ⟨_, _, rfl, rfl, _, rfl, ?_⟩
      by_cases hd2 : 0 < d2
      · refine iteD hd2 ?_
        have hsa3 := hK03 _ _ hsa nas
        refine ⟨_, rfl, _, rfl, _, rfl, _, _, rfl, .inl ⟨_, SqL.of hsa3, rfl⟩, s, c, _, rfl, hS3, by rw [List.length_cons]; omega, ?_, fun d3 H4 h30 h31 hS4 hK4 => ?_⟩
        · rw [paired_len hL]
          omega
        · have hK04 := hK03.trans hK4
          have hsa4 := hK04 _ _ hsa nas
          have hj : d3.toNat < (sv :: svr).length := by omega
          have hv : (sv :: svr)[d3.toNat]? = some ((sv :: svr)[d3.toNat]) := List.getElem?_eq_getElem hj
          obtain ⟨p, hp, pa, q, e, hpa, hq⟩ := paired_get (pairs_tk (Keep.tk hK04 hsx) hL) hv
          refine ⟨sa, _, _, .ref pa, rfl, rfl, SqL.of hsa4, at_of (j := d3.toNat) (by omega) (by rw [hv, e]), pa, _, _, _, rfl, rfl, SqT.of hpa, atI_nat (j := 0) rfl, ?_⟩
          exact read pl p.1 H4 (hok p (List.mem_of_getElem? hp)) hS4 hK04 (hK4 _ _ hpl3 npl) npl hpl
      · refine iteND hd2 ?_
        exact read pl x H3 (pool2_ok _ hx) hS3 hK03 hpl3 npl hpl
end
end Kt
namespace Kt
open PySem PySem.Spec PyProof.Rows L2
section
variable {P : Program} {w : World} {K : PySem.W.Frag} {mg : Str → Option Value} {base : Heap}
def spIsInt : Sp := fun vs H Q _ => ∃ i, vs = [.int i] ∧ Q (.bl true) H
theorem scIsInt : FnScope ["_law_actual"] ["_law_actual"] (defScope sIsInt) := ⟨rfl, rfl, rfl, by decide +kernel, rfl, by decide +kernel, by decide +kernel⟩
theorem ok_isInt {f : Addr} {fd : FuncData} (F : Fun K "_law_is_integer" "_law_is_integer" sIsInt f fd) (B : Blt mg) : FnOk P w K mg base CX0 1 f fd ["_law_actual"] spIsInt := by
  refine F.ok scIsInt (fun vs H Q E h => ?_) (fun cdv A outer s H vs Q E hr h => ?_)
  · obtain ⟨i, rfl, _⟩ := h
    rfl
  · refine ⟨_, pss_one (ps_ret (pe_and (pe_callB call_isi (by rfl) B.isinstance boot_isinstance (pa_cons (pv 0) (pa_cons (pe_bltn (v := .ty "int") (by rfl) B.int boot_int rfl) pa_nil))) (pe_one (pe_not (pe_callB call_isi (by rfl) B.isinstance boot_isinstance (pa_cons (pv 0) (pa_cons (pe_bltn (v := .ty "bool") (by rfl) B.bool boot_bool rfl) pa_nil))))))), ?_⟩
    obtain ⟨i, rfl, k⟩ := h
    exact ⟨_, rfl, _, _, .type "int", .type "int", true, rfl, .ty "int", .base (.int i), kit_ty (by decide +kernel), true, rfl, _, rfl, _, _, .type "int", .type "bool", false, rfl, .ty "bool", .base (.int i), kit_ty (by decide +kernel), false, rfl, k⟩
/-! ### equal -/
abbrev nEqual : List Str := ["_law_actual", "_law_due", "_law_at"]
def spEq (n : Nat) : Sp := fun vs H Q _ => ∃ x y, vs = [x, y] ∧ EqV H n x y ∧ ∀ H', Same H H' → Q (.bl true) H'
theorem scEqual : FnScope nEqual ["_law_actual", "_law_due"] (defScope sEqual) := ⟨rfl, rfl, rfl, by decide +kernel, rfl, by decide +kernel, by decide +kernel⟩
theorem ok_equal {f : Addr} {fd : FuncData} (F : Fun K "_law_equal" "_law_equal" sEqual f fd) (B : Blt mg) (HI : Has P w K mg base CX0 1 "_law_is_integer" ["_law_actual"] spIsInt) (mE : mg "_law_equal" = some (.ref f)) (kE : PySem.W.keepIn K (.ref f) = true)
    (bE : Binds K fd ["_law_actual", "_law_due"] []) : ∀ n, FnOk P w K mg base CX0 (n + 2) f fd ["_law_actual", "_law_due"] (spEq n) := by
  obtain ⟨fI, fdI, GI, mI, kI, bI⟩ := HI
  intro n
  induction n with
  | zero =>
    refine F.ok scEqual (fun vs H Q E h => ?_) (fun cdv A outer s H vs Q E hr h => ?_)
    · obtain ⟨x, y, rfl, _⟩ := h
      rfl
    · have hr1 : Room 1 _ := hr.mono (by decide)
      refine ⟨_, pss_cons (ps_if (pt_cmpR op_isN (pv 1) pe_non (nomark _)) (pss_one ps_never) pss_nil)
      (pss_cons (ps_if (pt_val (pe_callB call_isi (by rfl) B.isinstance boot_isinstance (pa_cons (pv 1) (pa_cons (pe_bltn (v := .ty "bool") (by rfl) B.bool boot_bool rfl) pa_nil)))) (pss_one ps_never) pss_nil)
      (pss_cons (ps_if (pt_val (pe_callB call_isi (by rfl) B.isinstance boot_isinstance (pa_cons (pv 1) (pa_cons (pe_bltn (v := .ty "int") (by rfl) B.int boot_int rfl) pa_nil)))) (pss_one (ps_ret (pe_and (pe_call GI hr1 (by rfl) mI kI bI .nil pass0 (pa_cons (pv 0) pa_nil)) (pe_one (pe_cmpR op_eq (pv 0) (pv 1) (nomark _)))))) pss_nil)
      (pss_cons (ps_if (pt_val (pe_callB call_isi (by rfl) B.isinstance boot_isinstance (pa_cons (pv 1) (pa_cons (pe_bltn (v := .ty "str") (by rfl) B.str boot_str rfl) pa_nil)))) (pss_one (ps_ret (pe_and (pe_callB call_isi (by rfl) B.isinstance boot_isinstance (pa_cons (pv 0) (pa_cons (pe_bltn (v := .ty "str") (by rfl) B.str boot_str rfl) pa_nil))) (pe_one (pe_cmpR op_eq (pv 0) (pv 1) (nomark _)))))) pss_nil)
      (pss_cons (ps_never)
      (pss_cons (ps_never)
      (pss_cons (ps_never)
      (pss_one (ps_never)))))))), ?_⟩
      obtain ⟨x, y, rfl, he, k⟩ := h
      unfold EqV at he
      rcases he with ⟨i, rfl, rfl⟩ | ⟨z, rfl, rfl⟩
      · refine ⟨_, rfl, rfl, _, rfl, iteND (fun e => nomatch e) ?_⟩
        refine ⟨_, rfl, _, _, .type "int", .type "bool", false, rfl, .ty "bool", .base (.int i), kit_ty (by decide +kernel), false, rfl, ?_⟩
        refine ⟨_, rfl, _, _, .type "int", .type "int", true, rfl, .ty "int", .base (.int i), kit_ty (by decide +kernel), true, rfl, ?_⟩
        refine ⟨_, rfl, i, rfl, true, rfl, _, rfl, _, rfl, rfl, ?_⟩
        show Q (.bl (decide (V.int i = V.int i))) H
        rw [decide_eq_true rfl]
        exact k _ (Same.refl _)
      · refine ⟨_, rfl, rfl, _, rfl, iteND (fun e => nomatch e) ?_⟩
        refine ⟨_, rfl, _, _, .type "str", .type "bool", false, rfl, .ty "bool", .base (.str z), kit_ty (by decide +kernel), false, rfl, ?_⟩
        refine ⟨_, rfl, _, _, .type "str", .type "int", false, rfl, .ty "int", .base (.str z), kit_ty (by decide +kernel), false, rfl, ?_⟩
        refine ⟨_, rfl, _, _, .type "str", .type "str", true, rfl, .ty "str", .base (.str z), kit_ty (by decide +kernel), true, rfl, ?_⟩
        refine ⟨_, rfl, _, _, .type "str", .type "str", true, rfl, .ty "str", .base (.str z), kit_ty (by decide +kernel), true, rfl, _, rfl, _, rfl, rfl, ?_⟩
        show Q (.bl (decide (V.str z = V.str z))) H
        rw [decide_eq_true rfl]
        exact k _ (Same.refl _)

  | succ n ih =>
    refine F.ok scEqual (fun vs H Q E h => ?_) (fun cdv A outer s H vs Q E hr h => ?_)
    · obtain ⟨x, y, rfl, _⟩ := h
      rfl
    · have hr1 : Room 1 _ := hr.mono (by omega)
      refine ⟨_, pss_cons (ps_if (pt_cmpR op_isN (pv 1) pe_non (nomark _)) (pss_one ps_never) pss_nil)
      (pss_cons (ps_if (pt_val (pe_callB call_isi (by rfl) B.isinstance boot_isinstance (pa_cons (pv 1) (pa_cons (pe_bltn (v := .ty "bool") (by rfl) B.bool boot_bool rfl) pa_nil)))) (pss_one ps_never) pss_nil)
      (pss_cons (ps_if (pt_val (pe_callB call_isi (by rfl) B.isinstance boot_isinstance (pa_cons (pv 1) (pa_cons (pe_bltn (v := .ty "int") (by rfl) B.int boot_int rfl) pa_nil)))) (pss_one (ps_ret (pe_and (pe_call GI hr1 (by rfl) mI kI bI .nil pass0 (pa_cons (pv 0) pa_nil)) (pe_one (pe_cmpR op_eq (pv 0) (pv 1) (nomark _)))))) pss_nil)
      (pss_cons (ps_if (pt_val (pe_callB call_isi (by rfl) B.isinstance boot_isinstance (pa_cons (pv 1) (pa_cons (pe_bltn (v := .ty "str") (by rfl) B.str boot_str rfl) pa_nil)))) (pss_one (ps_ret (pe_and (pe_callB call_isi (by rfl) B.isinstance boot_isinstance (pa_cons (pv 0) (pa_cons (pe_bltn (v := .ty "str") (by rfl) B.str boot_str rfl) pa_nil))) (pe_one (pe_cmpR op_eq (pv 0) (pv 1) (nomark _)))))) pss_nil)
      (pss_cons (ps_if (PW.pt (pw_and (pt_val (pe_callB call_isi (by rfl) B.isinstance boot_isinstance (pa_cons (pv 1) (pa_cons (pe_bltn (v := .ty "tuple") (by rfl) B.tuple boot_tuple rfl) pa_nil)))) (pw_and1 (pt_not (pt_val (pe_callB call_isi (by rfl) B.isinstance boot_isinstance (pa_cons (pv 0) (pa_cons (pe_bltn (v := .ty "tuple") (by rfl) B.tuple boot_tuple rfl) pa_nil)))))))) (pss_one ps_never) pss_nil)
      (pss_cons (ps_if (PW.pt (pw_and (pt_val (pe_callB call_isi (by rfl) B.isinstance boot_isinstance (pa_cons (pv 1) (pa_cons (pe_bltn (v := .ty "list") (by rfl) B.list boot_list rfl) pa_nil)))) (pw_and1 (pt_not (pt_val (pe_callB call_isi (by rfl) B.isinstance boot_isinstance (pa_cons (pv 0) (pa_cons (pe_bltn (v := .ty "list") (by rfl) B.list boot_list rfl) pa_nil)))))))) (pss_one ps_never) pss_nil)
      (pss_cons (ps_if (pt_cmpR op_ne (pe_callB call_len (by rfl) B.len PySem.boot_len (pa_cons (pv 0) pa_nil)) (pe_callB call_len (by rfl) B.len PySem.boot_len (pa_cons (pv 1) pa_nil)) (nomark _)) (pss_one ps_never) pss_nil)
      (pss_one (ps_ret (pe_callB (cr_all rfl) (by rfl) B.all boot_all (pa_cons
        (pe_lc (own := [("_law_at", 2)]) (g := gName 2) (tt := tYes) (by rfl) scEqual.nd (pi_range1 (by rfl) B.range (pa_cons (pe_callB call_len (by rfl) B.len PySem.boot_len (pa_cons (pv 1) pa_nil)) pa_nil)) (blkOk_by (own := [("_law_at", 2)]) (N := nEqual) (sc := defScope sEqual) (by decide +kernel))
          (fun _ _ _ _ _ => pg_name (i := 2) scEqual.nd rfl (Or.inl rfl)) (fun _ _ _ _ _ => pts_nil)
          (fun _ _ _ _ _ => pe_call ih hr (by rfl) mE kE bE .nil pass0 (pa_cons (pe_ix (ix_tupK K) (pv 0) (pv 2) (fun _ _ => rfl)) (pa_cons (pe_ix (ix_tupK K) (pv 1) (pv 2) (fun _ _ => rfl)) pa_nil)))) pa_nil)))))))))), ?_⟩
      obtain ⟨x, y, rfl, he, k⟩ := h
      unfold EqV at he
      rcases he with he | ⟨a, b, xs, ys, rfl, rfl, ha, hb, hl, hl1, he⟩
      · unfold EqV at he
        rcases he with ⟨i, rfl, rfl⟩ | ⟨z, rfl, rfl⟩
        · refine ⟨_, rfl, rfl, _, rfl, iteND (fun e => nomatch e) ?_⟩
          refine ⟨_, rfl, _, _, .type "int", .type "bool", false, rfl, .ty "bool", .base (.int i), kit_ty (by decide +kernel), false, rfl, ?_⟩
          refine ⟨_, rfl, _, _, .type "int", .type "int", true, rfl, .ty "int", .base (.int i), kit_ty (by decide +kernel), true, rfl, ?_⟩
          refine ⟨_, rfl, i, rfl, true, rfl, _, rfl, _, rfl, rfl, ?_⟩
          show Q (.bl (decide (V.int i = V.int i))) H
          rw [decide_eq_true rfl]
          exact k _ (Same.refl _)
        · refine ⟨_, rfl, rfl, _, rfl, iteND (fun e => nomatch e) ?_⟩
          refine ⟨_, rfl, _, _, .type "str", .type "bool", false, rfl, .ty "bool", .base (.str z), kit_ty (by decide +kernel), false, rfl, ?_⟩
          refine ⟨_, rfl, _, _, .type "str", .type "int", false, rfl, .ty "int", .base (.str z), kit_ty (by decide +kernel), false, rfl, ?_⟩
          refine ⟨_, rfl, _, _, .type "str", .type "str", true, rfl, .ty "str", .base (.str z), kit_ty (by decide +kernel), true, rfl, ?_⟩
          refine ⟨_, rfl, _, _, .type "str", .type "str", true, rfl, .ty "str", .base (.str z), kit_ty (by decide +kernel), true, rfl, _, rfl, _, rfl, rfl, ?_⟩
          show Q (.bl (decide (V.str z = V.str z))) H
          rw [decide_eq_true rfl]
          exact k _ (Same.refl _)
      · refine ⟨_, rfl, rfl, _, rfl, iteND (fun e => nomatch e) ?_⟩
        refine ⟨_, rfl, _, _, .type "tuple", .type "bool", false, rfl, .ty "bool", tyx_tup hb, kit_ty (by decide +kernel), false, rfl, ?_⟩
        refine ⟨_, rfl, _, _, .type "tuple", .type "int", false, rfl, .ty "int", tyx_tup hb, kit_ty (by decide +kernel), false, rfl, ?_⟩
        refine ⟨_, rfl, _, _, .type "tuple", .type "str", false, rfl, .ty "str", tyx_tup hb, kit_ty (by decide +kernel), false, rfl, ?_⟩
        refine ⟨_, rfl, _, _, .type "tuple", .type "tuple", true, rfl, .ty "tuple", tyx_tup hb, kit_ty (by decide +kernel), true, rfl, _, rfl, _, _, .type "tuple", .type "tuple", true, rfl, .ty "tuple", tyx_tup ha, kit_ty (by decide +kernel), true, rfl, ?_⟩
        refine ⟨_, rfl, _, _, .type "tuple", .type "list", false, rfl, .ty "list", tyx_tup hb, kit_ty (by decide +kernel), false, rfl, ?_⟩
        refine ⟨_, rfl, _, _, rfl, .inr ⟨_, .inl ha, rfl⟩, _, rfl, _, _, rfl, .inr ⟨_, .inl hb, rfl⟩, rfl, _, rfl, ?_⟩
        refine iteNS (by rw [hl]) ?_
        refine ⟨_, rfl, _, _, rfl, .inr ⟨_, .inl hb, rfl⟩, (ys.length : Int), rfl, by omega, by omega, fun D hD => lc_range (lo := 0) (n := ys.length) (fun i H' => Same H H' ∧ H' D = some (.lst (trues i))) ⟨same_new hD, upd_same⟩ ?_ ?_⟩
        · rintro i H' hi ⟨s', hD'⟩
          have hx : xs[i]? = some (xs[i]'(by omega)) := List.getElem?_eq_getElem (by omega)
          have hy : ys[i]? = some ys[i] := List.getElem?_eq_getElem hi
          have ei : (0 : Int) + (i : Int) = (i : Int) := Int.zero_add _
          refine ⟨rfl, _, rfl, _, rfl, a, _, _, _, rfl, rfl, .inl (rd_same s' ha), at_of ei hx, _, rfl, _, rfl, b, _, _, _, rfl, rfl, .inl (rd_same s' hb), at_of ei hy, _, _, rfl, EqV.same s' (he i _ _ hx hy), fun H2 s2 => ⟨_, s2 _ _ hD', ?_, ?_⟩⟩
          · rw [trues_len]
            exact lt_line (by omega)
          · rw [trues_more]
            exact ⟨same_upd hD (s'.trans s2), upd_same⟩
        · rintro H' ⟨s', hD'⟩
          refine ⟨D, List.replicate ys.length true, rfl, SqL.of hD', ?_⟩
          rw [all_trues]
          exact k _ s'

end
end Kt
namespace Kt
open PySem PySem.Spec PyProof.Rows L2
/-! ### the members of the sets of a name -/
def fds (n : Str) (L : Sets) : List (List Str) := (L.filter fun p => decide (p.1 = n)).map (·.2)
theorem fds_more {n : Str} {L : Sets} {i : Nat} {p : Str × List Str} (h : L[i]? = some p) : fds n (L.take (i + 1)) = fds n (L.take i) ++ (if p.1 = n then [p.2] else []) := by
  unfold fds
  have e : L.take (i + 1) = L.take i ++ [p] := take_more h
  rw [e, List.filter_append, List.map_append]
  congr 1
  by_cases q : p.1 = n
  · rw [if_pos q, List.filter_cons_of_pos (by simpa using q)]
    rfl
  · rw [if_neg q, List.filter_cons_of_neg (by simpa using q)]
    rfl
theorem fds_fnd {n : Str} {L : Sets} : ∀ i, i ≤ L.length → fds n (L.take i) = (fnd n L i).map fun j => (L.getD j ("", [])).2
  | 0, _ => rfl
  | i + 1, h => by
    have hi : i < L.length := h
    have hp : L[i]? = some L[i] := List.getElem?_eq_getElem hi
    rw [fds_more hp, fnd_more, List.map_append, fds_fnd i (by omega), hp]
    congr 1
    by_cases q : L[i].1 = n
    · rw [if_pos q, if_pos (by rw [← q]; rfl)]
      show [L[i].2] = [(L.getD i ("", [])).2]
      rw [List.getD_eq_getElem?_getD, hp]
      rfl
    · rw [if_neg q, if_neg (show ¬ (some L[i]).map Prod.fst = some n from fun z => q (Option.some.inj z))]
      rfl
theorem fds_all {n : Str} {L : Sets} : fds n L = (fnd n L L.length).map fun j => (L.getD j ("", [])).2 := by
  have q := fds_fnd (n := n) (L := L) L.length (Nat.le_refl _)
  rw [List.take_length] at q
  exact q
theorem fds_nil {n : Str} {L : Sets} : fds n L = [] ↔ fnd n L L.length = [] := by
  rw [fds_all, List.map_eq_nil_iff]
theorem fds_cons {n : Str} {L : Sets} {j : Nat} {r : List Nat} {ms : List Str} (h : fnd n L L.length = j :: r) (hj : L[j]? = some (n, ms)) : ∃ r', fds n L = ms :: r' := by
  refine ⟨r.map fun j => (L.getD j ("", [])).2, ?_⟩
  rw [fds_all, h]
  show (L.getD j ("", [])).2 :: _ = _
  rw [List.getD_eq_getElem?_getD, hj]
  rfl
section
variable {P : Program} {w : World} {K : PySem.W.Frag} {mg : Str → Option Value} {base : Heap}
abbrev nWhy : List Str := ["_law_sets", "_law_command_here", "_law_found", "_law_name", "_law_chosen"]
def spWhy : Sp := fun vs H Q _ => ∃ sa svs L cv c, vs = [.ref sa, cv] ∧ H sa = some (.lst svs) ∧ Paired (PairV H) svs L ∧ L.length ≤ 100 ∧ CmdV H cv c ∧ ∀ H', Same H H' → Q (.str (why L c)) H'
theorem scWhy : FnScope nWhy ["_law_sets", "_law_command_here"] (defScope sWhy) := ⟨rfl, rfl, rfl, by decide +kernel, rfl, by decide +kernel, by decide +kernel⟩
theorem ok_why {f : Addr} {fd : FuncData} (F : Fun K "_law_why_not" "_law_why_not" sWhy f fd) (B : Blt mg) : FnOk P w K mg base CX0 1 f fd ["_law_sets", "_law_command_here"] spWhy := by
  refine F.ok scWhy (fun vs H Q E h => ?_) (fun cdv A outer s H vs Q E hr h => ?_)
  · obtain ⟨sa, svs, L, cv, c, rfl, _⟩ := h
    rfl
  · refine ⟨_, pss_cons (ps_setLc (i := 2) (own := [("_law_name", 3), ("_law_chosen", 4)]) (g := gTup K 2 (gCons (gName 3) (gCons (gName 4) gNil))) (by rfl) scWhy.nd rfl rfl (sw_true rfl rfl rfl (by decide +kernel)) (pi_list (pv 0))
          (blkOk_by (own := [("_law_name", 3), ("_law_chosen", 4)]) (N := nWhy) (sc := defScope sWhy) (by decide +kernel))
          (fun _ _ _ _ _ => pg_tup (by rfl) (pgs_cons (pg_name (i := 3) scWhy.nd rfl (Or.inl rfl)) (pgs_cons (pg_name (i := 4) scWhy.nd rfl (Or.inl rfl)) pgs_nil)))
          (fun _ _ _ _ _ => pts_one (pt_cmpR op_eq (pv 3) (pe_ix (ix_tupK K) (pv 1) pe_int (fun _ _ => rfl)) (nomark _)))
          (fun _ _ _ _ _ => pv 4))
      (pss_cons (ps_if (pt_cmpR op_eq (pe_ix ix_tup (pv 1) pe_int (fun _ _ => rfl)) pe_str (nomark _)) (pss_cons (ps_if (pt_truth (pv 2) (by intro _; rfl)) (pss_one (ps_ret pe_str)) pss_nil)
      (pss_one (ps_ret (pe_ix ix_list (pe_lst (pa_cons pe_str (pa_cons pe_str pa_nil))) (pe_callTy call_int1 (by rfl) B.int boot_int (pa_cons (pe_cmpR op_ge (pe_callB call_len (by rfl) B.len PySem.boot_len (pa_cons (pv 0) pa_nil)) pe_int (nomark _)) pa_nil)) (fun _ _ => rfl))))) pss_nil)
      (pss_cons (ps_if (pt_not (pt_truth (pv 2) (by intro _; rfl))) (pss_one (ps_ret pe_str)) pss_nil)
      (pss_cons (ps_if (PW.pt (pw_and (pt_cmpR op_eq (pe_ix ix_tup (pv 1) pe_int (fun _ _ => rfl)) pe_str (nomark _)) (pw_and1 (pt_cmpR op_in_seq (pe_ix ix_tup (pv 1) pe_int (fun _ _ => rfl)) (pe_ix ix_list (pv 2) pe_int (fun _ _ => rfl)) (by rfl))))) (pss_one (ps_ret pe_str)) pss_nil)
      (pss_cons (ps_if (PW.pt (pw_and (pt_cmpR op_eq (pe_ix ix_tup (pv 1) pe_int (fun _ _ => rfl)) pe_str (nomark _)) (pw_and1 (pt_cmpR op_notIn_seq (pe_ix ix_tup (pv 1) pe_int (fun _ _ => rfl)) (pe_ix ix_list (pv 2) pe_int (fun _ _ => rfl)) (by rfl))))) (pss_one (ps_ret pe_str)) pss_nil)
      (pss_one (ps_ret pe_str)))))), ?_⟩
    obtain ⟨sa, svs, L, cv, c, rfl, hsa, hL, hl, hc, k⟩ := h
    obtain ⟨ca, r, rfl, hca, hR⟩ := hc.open_
    have hlen := paired_len hL
    refine ⟨_, rfl, sa, rfl, ⟨_, SqL.of hsa⟩, fun D hD => lc_it (walk_list (K := K) (a := sa) (xs := svs)) (fun i H' => Same H H' ∧ ∃ ws, H' D = some (.lst ws) ∧ Paired (StrT H) ws (fds c.name (L.take i)) ∧ ws.length ≤ i) ⟨same_new hD, [], upd_same, .nil, Nat.le_refl _⟩ (fun i H' _ p => SqL.of (p.1 _ _ hsa)) ?_ ?_⟩
    · rintro i y H' H'' hi ⟨s', ws, hD', hW, hwl⟩ ⟨rfl, hy⟩
      obtain ⟨p, hp, pa, q, rfl, hpa, hq⟩ := paired_get hL hy
      refine ⟨pa, _, rfl, SqT.of (s' _ _ hpa), rfl, _, _, rfl, _, _, rfl, rfl, rfl, ?_⟩
      refine ⟨_, rfl, _, rfl, ca, _, _, _, rfl, rfl, SqT.of (s' _ _ hca), atI_nat (j := 1) rfl, rfl, _, rfl, ?_⟩
      by_cases hn : p.1 = c.name
      · refine iteD (by rw [hn]) ?_
        refine ⟨_, rfl, ws, hD', lt_line (by omega), same_upd hD s', _, upd_same, ?_, by rw [List.length_append]; show ws.length + 1 ≤ i + 1; omega⟩
        rw [fds_more hp, if_pos hn]
        exact paired_app hW (.cons hq .nil)
      · refine iteND (ne_str hn) ?_
        refine ⟨s', ws, hD', ?_, by omega⟩
        rw [fds_more hp, if_neg hn, List.append_nil]
        exact hW
    · rintro H1 ⟨s1, ws, hD1, hW, hwl⟩
      rw [hlen, List.take_length] at hW
      have hca1 := s1 _ _ hca
      have hsa1 := s1 _ _ hsa
      refine ⟨_, rfl, ca, _, _, _, rfl, rfl, SqT.of hca1, atI_nat (j := 0) rfl, rfl, _, rfl, ?_⟩
      cases c with
      | add n ch =>
        refine iteD rfl ?_
        have hW2 : Paired (StrT H) ws (fds n L) := hW
        cases hW' : fds n L with
        | nil =>
          rw [hW'] at hW2
          cases hW2
          have hf : fnd n L L.length = [] := fds_nil.mp hW'
          refine ⟨_, rfl, false, .inl ⟨_, SqL.of hD1, rfl⟩, ?_⟩
          refine ⟨by show 2 ≤ sizeLine; decide, fun pq hpq => ?_⟩
          have s2 := same_new (o := HO.lst [.str "", .str "many"]) hpq
          refine ⟨_, rfl, _, _, rfl, .inl ⟨_, SqL.of (s2 _ _ hsa1), rfl⟩, _, _, rfl, rfl, .inr ⟨_, rfl, ?_⟩⟩
          have q := k _ (s1.trans s2)
          by_cases h8 : 8 ≤ L.length
          · have h8' : (8 : Int) ≤ (svs.length : Int) := by rw [hlen]; omega
            refine ⟨pq, _, _, .str "many", rfl, rfl, SqL.of upd_same, at_of (j := 1) (by rw [decide_eq_true h8']; rfl) rfl, ?_⟩
            have ew : why L (.add n ch) = "many" := by
              show (if _ then _ else _) = _
              rw [if_pos hf, if_pos h8]
            rw [ew] at q
            exact q
          · have h8' : ¬ (8 : Int) ≤ (svs.length : Int) := by rw [hlen]; omega
            refine ⟨pq, _, _, .str "", rfl, rfl, SqL.of upd_same, at_of (j := 0) (by rw [decide_eq_false h8']; rfl) rfl, ?_⟩
            have ew : why L (.add n ch) = "" := by
              show (if _ then _ else _) = _
              rw [if_pos hf, if_neg h8]
            rw [ew] at q
            exact q
        | cons ms mr =>
          have hne : fnd n L L.length ≠ [] := fun z => by
            rw [fds_nil.mpr z] at hW'
            cases hW'
          rw [hW'] at hW2
          cases hW2 with
          | cons hw0 hwr =>
          refine ⟨_, rfl, true, .inl ⟨_, SqL.of hD1, rfl⟩, ?_⟩
          have ew : why L (.add n ch) = "exists" := if_neg hne
          have q := k _ s1
          rw [ew] at q
          exact q
      | drop n =>
        refine iteND (ne_str (by show ("drop" : Str) ≠ "add"; decide)) ?_
        cases hW' : fds n L with
        | nil =>
          have hW2 : Paired (StrT H) ws (fds n L) := hW
          rw [hW'] at hW2
          cases hW2
          refine ⟨_, rfl, false, .inl ⟨_, SqL.of hD1, rfl⟩, ?_⟩
          have hf : fnd n L L.length = [] := fds_nil.mp hW'
          have ew : why L (.drop n) = "missing" := by
            unfold why
            simp only [hf, if_true]
          have q := k _ s1
          rw [ew] at q
          exact q
        | cons ms mr =>
          have hW2 : Paired (StrT H) ws (fds n L) := hW
          rw [hW'] at hW2
          cases hW2 with
          | cons hw0 hwr =>
          rename_i w0 wr
          obtain ⟨pw, rfl, hpw⟩ := hw0
          refine ⟨_, rfl, true, .inl ⟨_, SqL.of hD1, rfl⟩, ?_⟩
          have hne : fnd n L L.length ≠ [] := fun z => by
            rw [fds_nil.mpr z] at hW'
            cases hW'
          obtain ⟨j, jr, hf⟩ := List.exists_cons_of_ne_nil hne
          obtain ⟨ms', hj, _⟩ := fnd_head hf
          obtain ⟨r', hr'⟩ := fds_cons hf hj
          rw [hW'] at hr'
          obtain rfl := (List.cons.inj hr').1
          refine ⟨_, rfl, ca, _, _, _, rfl, rfl, SqT.of hca1, atI_nat (j := 0) rfl, rfl, _, rfl, iteND (ne_str (by show ("drop" : Str) ≠ "put"; decide)) ?_⟩
          refine ⟨_, rfl, ca, _, _, _, rfl, rfl, SqT.of hca1, atI_nat (j := 0) rfl, rfl, _, rfl, iteND (ne_str (by show ("drop" : Str) ≠ "take"; decide)) ?_⟩
          have ew : why L (.drop n) = "" := if_neg hne
          have q := k _ s1
          rw [ew] at q
          exact q
      | put n x =>
        refine iteND (ne_str (by show ("put" : Str) ≠ "add"; decide)) ?_
        cases hW' : fds n L with
        | nil =>
          have hW2 : Paired (StrT H) ws (fds n L) := hW
          rw [hW'] at hW2
          cases hW2
          refine ⟨_, rfl, false, .inl ⟨_, SqL.of hD1, rfl⟩, ?_⟩
          have hf : fnd n L L.length = [] := fds_nil.mp hW'
          have ew : why L (.put n x) = "missing" := by
            unfold why
            simp only [hf, if_true]
          have q := k _ s1
          rw [ew] at q
          exact q
        | cons ms mr =>
          have hW2 : Paired (StrT H) ws (fds n L) := hW
          rw [hW'] at hW2
          cases hW2 with
          | cons hw0 hwr =>
          rename_i w0 wr
          obtain ⟨pw, rfl, hpw⟩ := hw0
          refine ⟨_, rfl, true, .inl ⟨_, SqL.of hD1, rfl⟩, ?_⟩
          have hne : fnd n L L.length ≠ [] := fun z => by
            rw [fds_nil.mpr z] at hW'
            cases hW'
          obtain ⟨j, jr, hf⟩ := List.exists_cons_of_ne_nil hne
          obtain ⟨ms', hj, _⟩ := fnd_head hf
          obtain ⟨r', hr'⟩ := fds_cons hf hj
          rw [hW'] at hr'
          obtain rfl := (List.cons.inj hr').1
          obtain rfl := hR
          refine ⟨_, rfl, ca, _, _, _, rfl, rfl, SqT.of hca1, atI_nat (j := 0) rfl, rfl, _, rfl, iteD rfl ?_⟩
          refine ⟨_, rfl, ca, _, _, _, rfl, rfl, SqT.of hca1, atI_nat (j := 2) rfl, _, rfl, D, _, _, _, rfl, rfl, SqL.of hD1, atI_nat (j := 0) rfl, pw, _, rfl, .inr (SqT.of (s1 _ _ hpw)), rfl, flat_strs ms, decide (x ∈ ms), by rw [inV_str]; rfl, ?_⟩
          by_cases hx : x ∈ ms
          · refine iteD hx ?_
            have ew : why L (.put n x) = "there" := by
              unfold why
              simp only [hf, hj, if_pos hx]
            have q := k _ s1
            rw [ew] at q
            exact q
          · refine iteND hx ?_
            refine ⟨_, rfl, ca, _, _, _, rfl, rfl, SqT.of hca1, atI_nat (j := 0) rfl, rfl, _, rfl, iteND (ne_str (by show ("put" : Str) ≠ "take"; decide)) ?_⟩
            have ew : why L (.put n x) = "" := by
              unfold why
              simp only [hf, hj, if_neg hx]
            have q := k _ s1
            rw [ew] at q
            exact q
      | take n x =>
        refine iteND (ne_str (by show ("take" : Str) ≠ "add"; decide)) ?_
        cases hW' : fds n L with
        | nil =>
          have hW2 : Paired (StrT H) ws (fds n L) := hW
          rw [hW'] at hW2
          cases hW2
          refine ⟨_, rfl, false, .inl ⟨_, SqL.of hD1, rfl⟩, ?_⟩
          have hf : fnd n L L.length = [] := fds_nil.mp hW'
          have ew : why L (.take n x) = "missing" := by
            unfold why
            simp only [hf, if_true]
          have q := k _ s1
          rw [ew] at q
          exact q
        | cons ms mr =>
          have hW2 : Paired (StrT H) ws (fds n L) := hW
          rw [hW'] at hW2
          cases hW2 with
          | cons hw0 hwr =>
          rename_i w0 wr
          obtain ⟨pw, rfl, hpw⟩ := hw0
          refine ⟨_, rfl, true, .inl ⟨_, SqL.of hD1, rfl⟩, ?_⟩
          have hne : fnd n L L.length ≠ [] := fun z => by
            rw [fds_nil.mpr z] at hW'
            cases hW'
          obtain ⟨j, jr, hf⟩ := List.exists_cons_of_ne_nil hne
          obtain ⟨ms', hj, _⟩ := fnd_head hf
          obtain ⟨r', hr'⟩ := fds_cons hf hj
          rw [hW'] at hr'
          obtain rfl := (List.cons.inj hr').1
          obtain rfl := hR
          refine ⟨_, rfl, ca, _, _, _, rfl, rfl, SqT.of hca1, atI_nat (j := 0) rfl, rfl, _, rfl, iteND (ne_str (by show ("take" : Str) ≠ "put"; decide)) ?_⟩
          refine ⟨_, rfl, ca, _, _, _, rfl, rfl, SqT.of hca1, atI_nat (j := 0) rfl, rfl, _, rfl, iteD rfl ?_⟩
          refine ⟨_, rfl, ca, _, _, _, rfl, rfl, SqT.of hca1, atI_nat (j := 2) rfl, _, rfl, D, _, _, _, rfl, rfl, SqL.of hD1, atI_nat (j := 0) rfl, pw, _, rfl, .inr (SqT.of (s1 _ _ hpw)), rfl, flat_strs ms, !decide (x ∈ ms), by rw [inV_str]; rfl, ?_⟩
          by_cases hx : x ∈ ms
          · rw [decide_eq_true hx]
            have ew : why L (.take n x) = "" := by
              unfold why
              simp only [hf, hj, if_pos hx]
            have q := k _ s1
            rw [ew] at q
            exact q
          · rw [decide_eq_false hx]
            have ew : why L (.take n x) = "not there" := by
              unfold why
              simp only [hf, hj, if_neg hx]
            have q := k _ s1
            rw [ew] at q
            exact q
end
end Kt
namespace Kt
open PySem PySem.Spec PyProof.Rows L2
theorem iteNT {c A B : Prop} [Decidable c] (hc : ¬ c) (h : A) : if (!decide c) = true then A else B := by
  rw [decide_eq_false hc]
  exact iteT h
/-! ### behind -/
def stepB (c : Cmd) (p : Str × List Str) : Sets :=
  if p.1 = c.name then (match c with
    | .put _ e => [(p.1, p.2 ++ [e])]
    | .take _ e => [(p.1, p.2.filter (· ≠ e))]
    | _ => []) else [p]
def behind (L : Sets) : Cmd → Sets
  | .add n ch => L ++ [(n, ch)]
  | c => L.flatMap (stepB c)
theorem flat_more {c : Cmd} {L : Sets} {i : Nat} {p : Str × List Str} (h : L[i]? = some p) : (L.take (i + 1)).flatMap (stepB c) = (L.take i).flatMap (stepB c) ++ stepB c p := by
  have e : L.take (i + 1) = L.take i ++ [p] := take_more h
  rw [e, List.flatMap_append]
  simp
theorem stepB_len (c : Cmd) (p : Str × List Str) : (stepB c p).length ≤ 1 := by
  unfold stepB
  split
  · cases c <;> first | exact Nat.le_refl _ | exact Nat.zero_le _
  · exact Nat.le_refl _
theorem flat_len (c : Cmd) : ∀ L : Sets, (L.flatMap (stepB c)).length ≤ L.length
  | [] => Nat.le_refl _
  | p :: r => by
    rw [List.flatMap_cons, List.length_append, List.length_cons]
    have := flat_len c r
    have := stepB_len c p
    omega
section
variable {P : Program} {w : World} {K : PySem.W.Frag} {mg : Str → Option Value} {base : Heap}
abbrev nBehind : List Str := ["_law_names", "_law_sets", "_law_command_here", "_law_found", "_law_name", "_law_chosen", "_law_one"]
def spBehind : Sp := fun vs H Q _ => ∃ nv sa svs L cv c, vs = [nv, .ref sa, cv] ∧ H sa = some (.lst svs) ∧ Paired (PairV H) svs L ∧ L.length ≤ 100 ∧ (∀ p ∈ L, p.2.length ≤ 100) ∧ CmdV H cv c ∧ ∀ q ws H', H' q = some (.lst ws) → H q = none → Paired (PairV H') ws (behind L c) → Same H H' → Q (.ref q) H'
theorem scBehind : FnScope nBehind ["_law_names", "_law_sets", "_law_command_here"] (defScope sBehind) := ⟨rfl, rfl, rfl, by decide +kernel, rfl, by decide +kernel, by decide +kernel⟩
theorem ok_behind {f : Addr} {fd : FuncData} (F : Fun K "_law_behind" "_law_behind" sBehind f fd) (B : Blt mg) : FnOk P w K mg base CX0 1 f fd ["_law_names", "_law_sets", "_law_command_here"] spBehind := by
  refine F.ok scBehind (fun vs H Q E h => ?_) (fun cdv A outer s H vs Q E hr h => ?_)
  · obtain ⟨nv, sa, svs, L, cv, c, rfl, _⟩ := h
    rfl
  · refine ⟨_, pss_cons (ps_if (pt_cmpR op_eq (pe_ix ix_tup (pv 2) pe_int (fun _ _ => rfl)) pe_str (nomark _)) (pss_one (ps_ret (pe_op op_cat (pv 1) (pe_lst (pa_cons (pe_tup (pa_cons (pe_ix ix_tup (pv 2) pe_int (fun _ _ => rfl)) (pa_cons (pe_ix ix_tup (pv 2) pe_int (fun _ _ => rfl)) pa_nil))) pa_nil))))) pss_nil)
      (pss_cons (ps_set (i := 3) scBehind.nd rfl (Or.inl rfl) (pe_lst pa_nil))
      (pss_cons (ps_for PassesOwn.never rfl (pi_list (pv 1)) (pg_tup (by rfl) (pgs_cons (pg_name (i := 4) scBehind.nd rfl (Or.inl rfl)) (pgs_cons (pg_name (i := 5) scBehind.nd rfl (Or.inl rfl)) pgs_nil))) (pss_one (ps_if (pt_cmpR op_ne (pv 4) (pe_ix ix_tup (pv 2) pe_int (fun _ _ => rfl)) (nomark _)) (pss_one (ps_expr (pe_bm PySem.F.plainAttrs_list PySem.F.slot_list_append PySem.F.type_list_append mt_append (pv 3) (pa_cons (pe_tup (pa_cons (pv 4) (pa_cons (pv 5) pa_nil))) pa_nil)))) (pss_one (ps_if (pt_cmpR op_eq (pe_ix ix_tup (pv 2) pe_int (fun _ _ => rfl)) pe_str (nomark _)) (pss_one (ps_expr (pe_bm PySem.F.plainAttrs_list PySem.F.slot_list_append PySem.F.type_list_append mt_append (pv 3) (pa_cons (pe_tup (pa_cons (pv 4) (pa_cons (pe_op op_catA (pv 5) (pe_tup (pa_cons (pe_ix ix_tup (pv 2) pe_int (fun _ _ => rfl)) pa_nil))) pa_nil))) pa_nil)))) (pss_one (ps_if (pt_cmpR op_eq (pe_ix ix_tup (pv 2) pe_int (fun _ _ => rfl)) pe_str (nomark _)) (pss_one (ps_expr (pe_bm PySem.F.plainAttrs_list PySem.F.slot_list_append PySem.F.type_list_append mt_append (pv 3) (pa_cons (pe_tup (pa_cons (pv 4) (pa_cons (pe_callTy call_tuple_of (by rfl) B.tuple boot_tuple (pa_cons (pe_lc (own := [("_law_one", 6)]) (g := gName 6) (by rfl) scBehind.nd (pi_tup (pv 5)) (blkOk_by (own := [("_law_one", 6)]) (N := nBehind) (sc := defScope sBehind) (by decide +kernel)) (fun _ _ _ _ _ => pg_name (i := 6) scBehind.nd rfl (Or.inl rfl)) (fun _ _ _ _ _ => pts_one (pt_cmpR op_ne (pv 6) (pe_ix (ix_tupK K) (pv 2) pe_int (fun _ _ => rfl)) (nomark _))) (fun _ _ _ _ _ => pv 6)) pa_nil)) pa_nil))) pa_nil)))) pss_nil)))))))
      (pss_one (ps_ret (pv 3))))), ?_⟩
    obtain ⟨nv, sa, svs, L, cv, c, rfl, hsa, hL, hl, hl2, hc, k⟩ := h
    obtain ⟨ca, r, rfl, hca, hR⟩ := hc.open_
    have hlen := paired_len hL
    refine ⟨_, rfl, ca, _, _, _, rfl, rfl, SqT.of hca, atI_nat (j := 0) rfl, rfl, _, rfl, ?_⟩
    by_cases hadd : c.word = "add"
    · refine iteD (by rw [hadd]) ?_
      cases c with
      | drop n => exact absurd hadd (by show ¬ ("drop" : Str) = "add"; decide)
      | put n x => exact absurd hadd (by show ¬ ("put" : Str) = "add"; decide)
      | take n x => exact absurd hadd (by show ¬ ("take" : Str) = "add"; decide)
      | add n ch =>
        obtain ⟨q, rfl, hq⟩ := hR
        refine ⟨_, rfl, _, rfl, ca, _, _, _, rfl, rfl, SqT.of hca, atI_nat (j := 1) rfl, _, rfl, ca, _, _, _, rfl, rfl, SqT.of hca, atI_nat (j := 2) rfl, by show 2 ≤ sizeLine; decide, fun t ht => ⟨by show 1 ≤ sizeLine; decide, fun l hl' => ?_⟩⟩
        have s1 := same_new (o := HO.tup [.str n, q]) ht
        have s2 := same_new (o := HO.lst [.ref t]) hl'
        refine ⟨sa, l, svs, [.ref t], rfl, rfl, s2 _ _ (s1 _ _ hsa), upd_same, le_line (by rw [hlen]; show L.length + 1 ≤ 1000; omega), fun p hp => ?_⟩
        have s3 := same_new (o := HO.lst (svs ++ [.ref t])) hp
        have sE := s1.trans (s2.trans s3)
        exact k p _ _ upd_same (Same.free (s1.trans s2) hp) (paired_app (pairs_same sE hL) (.cons ⟨t, q, rfl, s3 _ _ (s2 _ _ upd_same), hq.same sE⟩ .nil)) sE
    · refine iteND (ne_str hadd) ?_
      refine ⟨by show 0 ≤ sizeLine; omega, fun fq hfq => ?_⟩
      have s1 := same_new (o := HO.lst []) hfq
      have k' : ∀ q ws H', H' q = some (.lst ws) → H q = none → Paired (PairV H') ws (L.flatMap (stepB c)) → Same H H' → Q (.ref q) H' := by
        cases c with
        | add n ch => exact absurd rfl hadd
        | drop n => exact k
        | put n x => exact k
        | take n x => exact k
      refine ⟨_, rfl, sa, rfl, ⟨_, SqL.of (s1 _ _ hsa)⟩, for_list (K := K) (a := sa) (xs := svs) (fun i σ H' => ∃ ws v4 v5, σ = [some nv, some (.ref sa), some (.ref ca), some (.ref fq), v4, v5, none] ∧ Same H H' ∧ H' fq = some (.lst ws) ∧ Paired (PairV H') ws ((L.take i).flatMap (stepB c)))
        ⟨[], none, none, rfl, s1, upd_same, .nil⟩ (fun i σ H' _ ⟨_, _, _, _, s', _⟩ => SqL.of (s' _ _ hsa)) ?_ ?_⟩
      · rintro i y σ H' hy ⟨ws, v4, v5, rfl, s', hf', hW⟩
        obtain ⟨p, hp, pa, q, rfl, hpa, ⟨qa, rfl, hqa⟩⟩ := paired_get hL hy
        have hi : i < svs.length := (List.getElem?_eq_some_iff.mp hy).1
        have hca' := s' _ _ hca
        have hwl : ws.length ≤ 100 := by
          rw [paired_len hW]
          refine Nat.le_trans (flat_len c _) ?_
          rw [List.length_take]
          omega
        refine ⟨pa, _, rfl, SqT.of (s' _ _ hpa), rfl, _, _, rfl, _, _, rfl, rfl, ?_⟩
        refine ⟨_, rfl, _, rfl, ca, _, _, _, rfl, rfl, SqT.of hca', atI_nat (j := 1) rfl, rfl, _, rfl, ?_⟩
        have app : ∀ (v : V) (ms : List Str) (H2 : Hp) (t : Addr), StrT H2 v ms → Same H' H2 → H2 t = none → stepB c p = [(p.1, ms)] → ∃ ws' v4 v5, [some nv, some (V.ref sa), some (V.ref ca), some (V.ref fq), some (V.str p.1), some (V.ref qa), none] = [some nv, some (.ref sa), some (.ref ca), some (.ref fq), v4, v5, none] ∧ Same H (upd (upd H2 t (.tup [.str p.1, v])) fq (.lst (ws ++ [.ref t]))) ∧
            upd (upd H2 t (.tup [.str p.1, v])) fq (.lst (ws ++ [.ref t])) fq = some (.lst ws') ∧ Paired (PairV (upd (upd H2 t (.tup [.str p.1, v])) fq (.lst (ws ++ [.ref t])))) ws' ((L.take (i + 1)).flatMap (stepB c)) := by
          intro v ms H2 t hv s2 ht hst
          have s3 := same_new (o := HO.tup [.str p.1, v]) ht
          have hf3 := s3 _ _ (s2 _ _ hf')
          have tkF := tk_lst (ys := ws ++ [.ref t]) hf3
          refine ⟨_, _, _, rfl, same_upd hfq (s'.trans (s2.trans s3)), upd_same, ?_⟩
          rw [flat_more hp, hst]
          exact paired_app (pairs_tk (((Same.tk s2).trans (Same.tk s3)).trans tkF) hW) (.cons ⟨t, v, rfl, tkF _ _ upd_same, (hv.same s3).tk tkF⟩ .nil)
        by_cases hn : p.1 = c.name
        · refine iteNS (by rw [hn]) ?_
          cases c with
          | add n ch => exact absurd rfl hadd
          | drop n =>
            refine ⟨_, rfl, ca, _, _, _, rfl, rfl, SqT.of hca', atI_nat (j := 0) rfl, rfl, _, rfl, iteND (ne_str (by show ("drop" : Str) ≠ "put"; decide)) ?_⟩
            refine ⟨_, rfl, ca, _, _, _, rfl, rfl, SqT.of hca', atI_nat (j := 0) rfl, rfl, _, rfl, iteND (ne_str (by show ("drop" : Str) ≠ "take"; decide)) ?_⟩
            refine ⟨ws, _, _, rfl, s', hf', ?_⟩
            have e0 : stepB (.drop n) p = [] := if_pos hn
            rw [flat_more hp, e0, List.append_nil]
            exact hW
          | put n x =>
            obtain rfl := hR
            refine ⟨_, rfl, ca, _, _, _, rfl, rfl, SqT.of hca', atI_nat (j := 0) rfl, rfl, _, rfl, iteD rfl ?_⟩
            refine ⟨_, rfl, .inl ⟨rfl, _, SqL.of hf'⟩, _, rfl, _, rfl, _, rfl, ca, _, _, _, rfl, rfl, SqT.of hca', atI_nat (j := 2) rfl, by show 1 ≤ sizeLine; decide, fun t1 ht1 => ?_⟩
            have s2 := same_new (o := HO.tup [.str x]) ht1
            have hpl := hl2 p (List.mem_of_getElem? hp)
            refine cat_any (xs := p.2.map V.str) (ys := [.str x]) (s2 _ _ (s' _ _ hqa)) upd_same (by rw [List.length_map]; show p.2.length + 1 ≤ 1000; omega) fun q4 H4 hq4 s4 => ⟨by show 2 ≤ sizeLine; decide, fun t ht => ?_⟩
            have hq4' : H4 q4 = some (.tup ((p.2 ++ [x]).map V.str)) := by rw [hq4, List.map_append]; rfl
            have s3 := same_new (o := HO.tup [.str p.1, .ref q4]) ht
            refine ⟨fq, _, _, rfl, rfl, s3 _ _ (s4 _ _ (s2 _ _ hf')), lt_line (by omega), ?_⟩
            have e0 : stepB (.put n x) p = [(p.1, p.2 ++ [x])] := if_pos hn
            obtain ⟨ws', v4', v5', e1, e2, e3, e4⟩ := app (.ref q4) _ H4 t ⟨q4, rfl, hq4'⟩ (s2.trans s4) ht e0
            exact ⟨ws', v4', v5', e1, e2, e3, e4⟩
          | take n x =>
            obtain rfl := hR
            refine ⟨_, rfl, ca, _, _, _, rfl, rfl, SqT.of hca', atI_nat (j := 0) rfl, rfl, _, rfl, iteND (ne_str (by show ("take" : Str) ≠ "put"; decide)) ?_⟩
            refine ⟨_, rfl, ca, _, _, _, rfl, rfl, SqT.of hca', atI_nat (j := 0) rfl, rfl, _, rfl, iteD rfl ?_⟩
            have hqa' := s' _ _ hqa
            have hpl := hl2 p (List.mem_of_getElem? hp)
            refine ⟨_, rfl, .inl ⟨rfl, _, SqL.of hf'⟩, _, rfl, _, rfl, qa, rfl, ⟨_, SqT.of hqa'⟩, fun D hD => lc_it (walk_tup (K := K) (a := qa) (xs := p.2.map V.str)) (fun j H2 => Same H' H2 ∧ H2 D = some (.lst (((p.2.take j).filter (· ≠ x)).map V.str))) ⟨same_new hD, upd_same⟩ (fun j H2 _ pp => SqT.of (pp.1 _ _ hqa')) ?_ ?_⟩
            · rintro j y2 H2 H3 hj ⟨s2, hD2⟩ ⟨rfl, hy2⟩
              obtain ⟨z, hz, rfl⟩ := str_at hy2
              have hj' : j < p.2.length := (List.getElem?_eq_some_iff.mp hz).1
              refine ⟨rfl, _, rfl, _, rfl, ca, _, _, _, rfl, rfl, SqT.of (s2 _ _ hca'), atI_nat (j := 2) rfl, rfl, _, rfl, ?_⟩
              by_cases hzx : z = x
              · subst hzx
                refine iteNS rfl ?_
                refine ⟨s2, ?_⟩
                rw [filter_more hz]
                simp only [ne_eq, not_true_eq_false, decide_false, Bool.false_eq_true, if_false, List.append_nil]
                exact hD2
              · refine iteNT (ne_str hzx) ?_
                refine ⟨_, rfl, _, hD2, ?_, same_upd hD s2, ?_⟩
                · rw [List.length_map]
                  exact lt_line (Nat.le_trans (List.length_filter_le _ _) (by rw [List.length_take]; omega))
                · rw [upd_same, filter_more hz]
                  simp only [ne_eq, hzx, not_false_eq_true, decide_true, if_true, List.map_append, List.map_cons, List.map_nil]
            · rintro H2 ⟨s2, hD2⟩
              rw [List.length_map, List.take_length] at hD2
              refine ⟨D, _, rfl, .inl ⟨SqL.of hD2, fun l2 hl2' => ⟨by show 2 ≤ sizeLine; decide, fun t ht => ?_⟩⟩⟩
              have s3 := same_new (o := HO.tup ((p.2.filter (· ≠ x)).map V.str)) hl2'
              have s4 := same_new (o := HO.tup [.str p.1, .ref l2]) ht
              refine ⟨fq, _, _, rfl, rfl, s4 _ _ (s3 _ _ (s2 _ _ hf')), lt_line (by omega), ?_⟩
              have e0 : stepB (.take n x) p = [(p.1, p.2.filter (· ≠ x))] := if_pos hn
              obtain ⟨ws', v4', v5', e1, e2, e3, e4⟩ := app (.ref l2) _ _ t ⟨l2, rfl, upd_same⟩ (s2.trans s3) ht e0
              exact ⟨ws', v4', v5', e1, e2, e3, e4⟩
        · refine iteNT (ne_str hn) ?_
          refine ⟨_, rfl, .inl ⟨rfl, _, SqL.of hf'⟩, _, rfl, _, rfl, by show 2 ≤ sizeLine; decide, fun t ht => ?_⟩
          have s3 := same_new (o := HO.tup [.str p.1, .ref qa]) ht
          refine ⟨fq, _, _, rfl, rfl, s3 _ _ hf', lt_line (by omega), ?_⟩
          have e0 : stepB c p = [(p.1, p.2)] := if_neg hn
          obtain ⟨ws', v4', v5', e1, e2, e3, e4⟩ := app (.ref qa) _ H' t ⟨qa, rfl, s' _ _ hqa⟩ (Same.refl _) ht e0
          exact ⟨ws', v4', v5', e1, e2, e3, e4⟩
      · rintro σ H' ⟨ws, v4, v5, rfl, s', hf', hW⟩
        rw [hlen, List.take_length] at hW
        exact ⟨_, rfl, k' fq ws H' hf' hfq hW s'⟩
end
end Kt
namespace Kt
open PySem PySem.Spec PyProof.Rows L2
/-! ### told_sets -/
def tupSnd : Expr → Expr
  | .Tuple [_, e] _ _ => e
  | e => e
abbrev nTold : List Str := ["_law_names", "_law_sets", "_law_name", "_law_chosen", "_law_one"]
def lcTold : Expr := arg0 (retE ((defBody sTold).getD 0 (.Pass ⟨0, 0, 0, 0⟩)))
theorem okTold2 : BlkOk nTold (relS (lcSc lcTold) (defScope sTold)) (lcSc (arg0 (tupSnd (lcElt lcTold)))) [("_law_one", 4)] := blkOk_by (by decide +kernel)
section
variable {P : Program} {w : World} {K : PySem.W.Frag} {mg : Str → Option Value} {base : Heap}
def spTold : Sp := fun vs H Q _ => ∃ nv ns sa svs L, vs = [nv, .ref sa] ∧ NamT H nv ns ∧ ns.length ≤ 100 ∧ H sa = some (.lst svs) ∧ Paired (PairV H) svs L ∧ L.length ≤ 100 ∧ ∀ v H', SetsT H' v (told ns L) → Same H H' → Q v H'
theorem scTold : FnScope nTold ["_law_names", "_law_sets"] (defScope sTold) := ⟨rfl, rfl, rfl, by decide +kernel, rfl, by decide +kernel, by decide +kernel⟩
theorem ok_told {f : Addr} {fd : FuncData} (F : Fun K "_law_told_sets" "_law_told_sets" sTold f fd) (B : Blt mg) : FnOk P w K mg base CX0 1 f fd ["_law_names", "_law_sets"] spTold := by
  refine F.ok scTold (fun vs H Q E h => ?_) (fun cdv A outer s H vs Q E hr h => ?_)
  · obtain ⟨nv, ns, sa, svs, L, rfl, _⟩ := h
    rfl
  · refine ⟨_, pss_one (ps_ret (pe_callTy call_tuple_of (by rfl) B.tuple boot_tuple (pa_cons (pe_lc (own := [("_law_name", 2), ("_law_chosen", 3)]) (g := gTup K 2 (gCons (gName 2) (gCons (gName 3) gNil))) (by rfl) scTold.nd (pi_list (pv 1)) (blkOk_by (own := [("_law_name", 2), ("_law_chosen", 3)]) (N := nTold) (sc := defScope sTold) (by decide +kernel))
        (fun _ _ _ _ _ => pg_tup (by rfl) (pgs_cons (pg_name (i := 2) scTold.nd rfl (Or.inl rfl)) (pgs_cons (pg_name (i := 3) scTold.nd rfl (Or.inr rfl)) pgs_nil))) (fun _ _ _ _ _ => pts_nil)
        (fun _ _ _ _ _ => pe_tup (pa_cons (pv 2) (pa_cons (pe_callTy (call_tuple_ofK K) (by rfl) B.tuple boot_tuple (pa_cons (pe_lc (own := [("_law_one", 4)]) (g := gName 4) (by rfl) scTold.nd (pi_tupK K (pv 0)) okTold2 (fun _ _ _ _ _ => pg_name (i := 4) scTold.nd rfl (Or.inl rfl)) (fun _ _ _ _ _ => pts_one (pt_cmpR (in_seqK K) (pv 4) (pv 3) (by rfl))) (fun _ _ _ _ _ => pv 4)) pa_nil)) pa_nil)))) pa_nil))), ?_⟩
    obtain ⟨nv, ns, sa, svs, S, rfl, ⟨na, rfl, hna⟩, hln, hsa, hS, hlS, k⟩ := h
    have hlen := paired_len hS
    refine ⟨_, rfl, sa, rfl, ⟨_, SqL.of hsa⟩, fun D hD => lc_it (walk_list (K := K) (a := sa) (xs := svs)) (fun i H' => Same H H' ∧ ∃ ws, H' D = some (.lst ws) ∧ Paired (PairV H') ws (told ns (S.take i))) ⟨same_new hD, [], upd_same, .nil⟩ (fun i H' _ p => SqL.of (p.1 _ _ hsa)) ?_ ?_⟩
    · rintro i y H' H'' hi ⟨s', ws, hD', hW⟩ ⟨rfl, hy⟩
      obtain ⟨p, hp, pa, q, rfl, hpa, ⟨qa, rfl, hqa⟩⟩ := paired_get hS hy
      have hna' := rd_same s' hna
      refine ⟨pa, _, rfl, SqT.of (s' _ _ hpa), rfl, _, _, rfl, _, _, rfl, rfl, rfl, ?_⟩
      refine ⟨_, rfl, _, rfl, na, rfl, ⟨_, .inl hna'⟩, fun D2 hD2 => lc_it (walk_tup (K := K) (a := na) (xs := ns.map V.str)) (fun j H2 => Same H'' H2 ∧ H2 D2 = some (.lst (((ns.take j).filter (· ∈ p.2)).map V.str))) ⟨same_new hD2, upd_same⟩ (fun j H2 _ pp => .inl (rd_same pp.1 hna')) ?_ ?_⟩
      · rintro j y2 H2 H3 hj ⟨s2, hD2'⟩ ⟨rfl, hy2⟩
        obtain ⟨x, hx, rfl⟩ := str_at hy2
        have hj' : j < ns.length := (List.getElem?_eq_some_iff.mp hx).1
        refine ⟨rfl, _, rfl, _, rfl, qa, _, rfl, .inr (SqT.of (s2 _ _ (s' _ _ hqa))), rfl, flat_strs p.2, decide (x ∈ p.2), by rw [inV_str]; rfl, ?_⟩
        by_cases hm : x ∈ p.2
        · refine iteD hm ?_
          refine ⟨_, rfl, _, hD2', ?_, same_upd hD2 s2, ?_⟩
          · rw [List.length_map]
            exact lt_line (Nat.le_trans (List.length_filter_le _ _) (by rw [List.length_take]; omega))
          · rw [upd_same, filter_more hx]
            simp only [hm, decide_true, if_true, List.map_append, List.map_cons, List.map_nil]
        · refine iteND hm ?_
          refine ⟨s2, ?_⟩
          rw [filter_more hx]
          simp only [hm, decide_false, Bool.false_eq_true, if_false, List.append_nil]
          exact hD2'
      · rintro H2 ⟨s2, hD2'⟩
        rw [List.length_map, List.take_length] at hD2'
        refine ⟨D2, _, rfl, .inl ⟨SqL.of hD2', fun l2 hl2 => ⟨by show 2 ≤ sizeLine; decide, fun t ht => ?_⟩⟩⟩
        have s3 := same_new (o := HO.tup ((ns.filter (· ∈ p.2)).map V.str)) hl2
        have s4 := same_new (o := HO.tup [.str p.1, .ref l2]) ht
        have s34 := s2.trans (s3.trans s4)
        have hD3 := s34 _ _ hD'
        have wl := paired_len hW
        have tkD := tk_lst (ys := ws ++ [.ref t]) hD3
        refine ⟨ws, hD3, ?_, same_upd hD (s'.trans s34), _, upd_same, ?_⟩
        · rw [wl]
          unfold told
          rw [List.length_map, List.length_take]
          exact lt_line (by omega)
        · have e1 : told ns (S.take (i + 1)) = told ns (S.take i) ++ [(p.1, ns.filter (· ∈ p.2))] := by
            unfold told
            have e2 : S.take (i + 1) = S.take i ++ [p] := take_more hp
            rw [e2, List.map_append]
            rfl
          rw [e1]
          exact paired_app (pairs_tk ((Same.tk s34).trans tkD) hW) (.cons ⟨t, .ref l2, rfl, tkD _ _ upd_same, ⟨l2, rfl, tkD _ _ (s4 _ _ upd_same)⟩⟩ .nil)
    · rintro H' ⟨s', ws, hD', hW⟩
      rw [hlen, List.take_length] at hW
      refine ⟨D, _, rfl, .inl ⟨SqL.of hD', fun l2 hl2 => ?_⟩⟩
      have s2 := same_new (o := HO.tup ws) hl2
      exact k _ _ ⟨l2, ws, rfl, upd_same, pairs_same s2 hW⟩ (s'.trans s2)
/-! ### system_of -/
def rowL (ns : List Str) (ch : List Str) (i : Nat) : List Nat := (List.range i).filter fun j => decide (ns.getD j "" ∈ ch)
theorem rowL_more (ns ch : List Str) (i : Nat) : rowL ns ch (i + 1) = rowL ns ch i ++ (if ns.getD i "" ∈ ch then [i] else []) := by
  unfold rowL
  rw [List.range_succ, List.filter_append]
  congr 1
  by_cases e : ns.getD i "" ∈ ch
  · rw [if_pos e, List.filter_cons_of_pos (by simpa using e)]
    rfl
  · rw [if_neg e, List.filter_cons_of_neg (by simpa using e)]
    rfl
theorem rowL_len (ns ch : List Str) (i : Nat) : (rowL ns ch i).length ≤ i := by
  unfold rowL
  exact Nat.le_trans (List.length_filter_le _ _) (by rw [List.length_range]; exact Nat.le_refl _)
def rowsL (ns : List Str) (L : Sets) : List (List Nat) := L.map fun p => rowL ns p.2 ns.length
abbrev nSysOf : List Str := ["_law_names", "_law_sets", "_law_rows", "_law_name", "_law_chosen", "_law_at"]
def spSysOf : Sp := fun vs H Q _ => ∃ nv ns sa svs L, vs = [nv, .ref sa] ∧ NamT H nv ns ∧ ns.length ≤ 100 ∧ H sa = some (.lst svs) ∧ Paired (PairV H) svs L ∧ L.length ≤ 100 ∧ ∀ v H', SysV H' v ns.length (rowsL ns L) → Same H H' → Q v H'
theorem scSysOf : FnScope nSysOf ["_law_names", "_law_sets"] (defScope sSysOf) := ⟨rfl, rfl, rfl, by decide +kernel, rfl, by decide +kernel, by decide +kernel⟩
theorem ok_sysOf {f : Addr} {fd : FuncData} (F : Fun K "_law_system_of" "_law_system_of" sSysOf f fd) (B : Blt mg) : FnOk P w K mg base CX0 1 f fd ["_law_names", "_law_sets"] spSysOf := by
  refine F.ok scSysOf (fun vs H Q E h => ?_) (fun cdv A outer s H vs Q E hr h => ?_)
  · obtain ⟨nv, ns, sa, svs, L, rfl, _⟩ := h
    rfl
  · refine ⟨_, pss_cons (ps_set (i := 2) scSysOf.nd rfl (Or.inl rfl) (pe_lst pa_nil))
      (pss_cons (ps_for PassesOwn.never rfl (pi_list (pv 1)) (pg_tup (by rfl) (pgs_cons (pg_name (i := 3) scSysOf.nd rfl (Or.inl rfl)) (pgs_cons (pg_name (i := 4) scSysOf.nd rfl (Or.inr rfl)) pgs_nil))) (pss_one (ps_expr (pe_bm PySem.F.plainAttrs_list PySem.F.slot_list_append PySem.F.type_list_append mt_append (pv 2) (pa_cons (pe_callTy call_tuple_of (by rfl) B.tuple boot_tuple (pa_cons (pe_lc (own := [("_law_at", 5)]) (g := gName 5) (by rfl) scSysOf.nd (pi_range1 (by rfl) B.range (pa_cons (pe_callB call_len (by rfl) B.len PySem.boot_len (pa_cons (pv 0) pa_nil)) pa_nil)) (blkOk_by (own := [("_law_at", 5)]) (N := nSysOf) (sc := defScope sSysOf) (by decide +kernel))
          (fun _ _ _ _ _ => pg_name (i := 5) scSysOf.nd rfl (Or.inl rfl)) (fun _ _ _ _ _ => pts_one (pt_cmpR (in_seqK K) (pe_ix (ix_tupK K) (pv 0) (pv 5) (fun _ _ => rfl)) (pv 4) (by rfl))) (fun _ _ _ _ _ => pv 5)) pa_nil)) pa_nil)))))
      (pss_one (ps_ret (pe_tup (pa_cons (pe_callB call_len (by rfl) B.len PySem.boot_len (pa_cons (pv 0) pa_nil)) (pa_cons (pe_callTy call_tuple_of (by rfl) B.tuple boot_tuple (pa_cons (pv 2) pa_nil)) pa_nil)))))), ?_⟩
    obtain ⟨nv, ns, sa, svs, S, rfl, ⟨na, rfl, hna⟩, hln, hsa, hS, hlS, k⟩ := h
    have hlen := paired_len hS
    have nlen : (ns.map V.str).length = ns.length := List.length_map _
    refine ⟨by show 0 ≤ sizeLine; omega, fun fq hfq => ?_⟩
    have s1 := same_new (o := HO.lst []) hfq
    refine ⟨_, rfl, sa, rfl, ⟨_, SqL.of (s1 _ _ hsa)⟩, for_list (K := K) (a := sa) (xs := svs) (fun i σ H' => ∃ ws v3 v4, σ = [some (.ref na), some (.ref sa), some (.ref fq), v3, v4, none] ∧ Same H H' ∧ H' fq = some (.lst ws) ∧ Paired (IntT H') ws ((rowsL ns S).take i))
      ⟨[], none, none, rfl, s1, upd_same, .nil⟩ (fun i σ H' _ ⟨_, _, _, _, s', _⟩ => SqL.of (s' _ _ hsa)) ?_ ?_⟩
    · rintro i y σ H' hy ⟨ws, v3, v4, rfl, s', hf', hW⟩
      obtain ⟨p, hp, pa, q, rfl, hpa, ⟨qa, rfl, hqa⟩⟩ := paired_get hS hy
      have hi : i < svs.length := (List.getElem?_eq_some_iff.mp hy).1
      have hna' := rd_same s' hna
      have hqa' := s' _ _ hqa
      have hwl : ws.length ≤ 100 := by
        rw [paired_len hW, List.length_take]
        omega
      refine ⟨pa, _, rfl, SqT.of (s' _ _ hpa), rfl, _, _, rfl, _, _, rfl, rfl, ?_⟩
      refine ⟨_, rfl, .inl ⟨rfl, _, SqL.of hf'⟩, _, rfl, _, _, rfl, .inr ⟨_, .inl hna', rfl⟩, _, rfl, by rw [nlen]; omega, by rw [nlen]; omega, fun D hD => lc_range (lo := 0) (n := (ns.map V.str).length) (fun j H2 => Same H' H2 ∧ H2 D = some (.lst (natsV (rowL ns p.2 j)))) ⟨same_new hD, upd_same⟩ ?_ ?_⟩
      · rintro j H2 hj ⟨s2, hD2⟩
        rw [nlen] at hj
        have ej : (0 : Int) + (j : Int) = (j : Int) := Int.zero_add _
        rw [ej]
        refine ⟨rfl, _, rfl, _, rfl, na, _, _, _, rfl, rfl, .inl (rd_same s2 hna'), getD_ix (d := "") hj, _, rfl, qa, _, rfl, .inr (SqT.of (s2 _ _ hqa')), rfl, flat_strs p.2, decide (ns.getD j "" ∈ p.2), by rw [inV_str]; rfl, ?_⟩
        by_cases hm : ns.getD j "" ∈ p.2
        · refine iteD hm ?_
          refine ⟨_, rfl, _, hD2, ?_, same_upd hD s2, ?_⟩
          · unfold natsV
            rw [List.length_map]
            exact lt_line (Nat.le_trans (rowL_len _ _ _) (by omega))
          · rw [upd_same, rowL_more, if_pos hm]
            unfold natsV
            rw [List.map_append]
            rfl
        · refine iteND hm ?_
          refine ⟨s2, ?_⟩
          rw [rowL_more, if_neg hm, List.append_nil]
          exact hD2
      · rintro H2 ⟨s2, hD2⟩
        rw [nlen] at hD2
        refine ⟨D, _, rfl, .inl ⟨SqL.of hD2, fun l2 hl2 => ?_⟩⟩
        have s3 := same_new (o := HO.tup (natsV (rowL ns p.2 ns.length))) hl2
        have s23 := s2.trans s3
        have hf3 := s23 _ _ hf'
        have tkF := tk_lst (ys := ws ++ [.ref l2]) hf3
        refine ⟨fq, _, _, rfl, rfl, hf3, lt_line (by omega), ?_⟩
        refine ⟨_, _, _, rfl, same_upd hfq (s'.trans s23), upd_same, ?_⟩
        have er : (rowsL ns S)[i]? = some (rowL ns p.2 ns.length) := by
          unfold rowsL
          rw [List.getElem?_map, hp]
          rfl
        rw [take_more er]
        exact paired_app (rows_tk ((Same.tk s23).trans tkF) hW) (.cons ⟨l2, rfl, tkF _ _ upd_same⟩ .nil)
    · rintro σ H2 ⟨ws, v3, v4, rfl, s2, hf2, hW⟩
      have el : svs.length = (rowsL ns S).length := by
        unfold rowsL
        rw [List.length_map, hlen]
      rw [el, List.take_length] at hW
      refine ⟨_, rfl, _, _, rfl, .inr ⟨_, .inl (rd_same s2 hna), rfl⟩, ?_⟩
      refine ⟨_, rfl, fq, _, rfl, .inl ⟨SqL.of hf2, fun l2 hl2 => ⟨by show 2 ≤ sizeLine; decide, fun t ht => ?_⟩⟩⟩
      have s3 := same_new (o := HO.tup ws) hl2
      have s4 := same_new (o := HO.tup [.int ((ns.map V.str).length : Nat), .ref l2]) ht
      refine k _ _ ⟨t, l2, ws, rfl, by rw [upd_same, List.length_map], s4 _ _ upd_same, rows_tk ((Same.tk s3).trans (Same.tk s4)) hW⟩ (s2.trans (s3.trans s4))
end
end Kt
namespace Kt
open PySem PySem.Spec PyProof.Rows L2
/-! ### a method that may raise, called within a try -/
def tMethX (C : Addr) (m : Str) (sp : Sp) (E : L2.St → XK) (ta : TE) (t : TA) : TE := fun σ H Q => ta σ H fun x H1 => ∃ a dx fs, x = .ref a ∧ H1 a = some (.ins C dx fs) ∧ fs.lookup m = none ∧ t σ H1 fun vs H2 => sp (x :: vs) H2 Q (E σ)
theorem pe_methX {X : Cx} {CX : CXT} {k : Nat} {f C : Addr} {fd : FuncData} {ps : List Str} {sp : Sp} {E : L2.St → XK} {m : Str} {pos apos : Pos} {e o : Expr} {es : List Expr} {ta : TE} {t : TA} {pl : Sem Bool} (he : PE X o ta) (c : Cls X.K C) (hm : Meth X.K C m f) (F : FnOk X.prog X.w X.K X.mg X.base CX k f fd ps sp) (hr : Room k X.A) (hb : Binds X.K fd ps [])
    (hx : ∀ σ, PassesAt CX X σ (E σ)) (ha : PA X (e :: es) t)
    (hst : starEach (e :: es) X.env = (false, eval e X.env) :: starEach es X.env := by rfl) (hpl : (backTo pos (starEach es X.env)).any (·.1) = false := by rfl)
    (ht : eval (.Call (.Attribute o m apos) (e :: es) [] pos) X.env = (do
      let ov ← eval o X.env
      standAt apos.atName
      let (f, first) ← holding [ov] (getMethod ov m pl)
      callWith pos f first (backTo pos (starEach (e :: es) X.env)) (backToKw pos (keywordEach [] X.env))) := by rfl) :
    PE X (.Call (.Attribute o m apos) (e :: es) [] pos) (tMethX C m sp E ta t) := by
  refine ⟨fun pins s σ H Q I h => ?_⟩
  refine PySem.W.methodCall_KW (pl := pl) (thn (he.run pins s σ H _ I h) fun u s1 ⟨x, H1, I1, rx, a, dx, fs, ex, ea, l, q⟩ => ?_) ht
  subst ex
  obtain rfl : u = Value.ref a := rx
  refine getmeth_ok I1 ea c hm l ?_
  refine PySem.W.callWith_K (first := [.ref a]) (h₀ := X.base) I.ok.mod.kin hm.kp (thn (ha.run pos pins s1 σ H1 _ I1 q) fun us s2 ⟨vs, H2, I2, r, q2⟩ => ⟨I2.kIn, ?_⟩) hst hpl
  exact run_fnS (us := .ref a :: us) (vs := .ref a :: vs) F hr hb (hx σ) I2 (.cons rfl r) q2
def NotV (H : Hp) (v : V) (w : Str) : Prop := ∃ a, v = .ref a ∧ H a = some (.tup [.str "not", .str w])
section
variable {P : Program} {w : World} {K : PySem.W.Frag} {mg : Str → Option Value} {base : Heap}
abbrev nToldAct : List Str := ["_law_editor", "_law_command_here", "e"]
def spToldAct (C : Addr) : Sp := fun vs H Q _ => ∃ e l nv ns S cvs cv c, vs = [.ref e, cv] ∧ EdAt C H e l nv S cvs ∧ NamT H nv ns ∧ (∀ x ∈ ns, OkName x) ∧ CmdV H cv c ∧ OkCmd ns c ∧ S.length ≤ 8 ∧ (∀ p ∈ S, p.2.length ≤ 40) ∧ cvs.length ≤ 15 ∧
  (why S c ≠ "" → ∀ v H', NotV H' v (why S c) → Same H H' → Q v H') ∧
  (why S c = "" → ∀ S' H', After S S' c → EdAt C H' e l nv S' (cvs ++ [cv]) → Keep2 e l H H' → Q (.int ((cvs.length + 1 : Nat) : Int)) H')
theorem scToldAct : FnScope nToldAct ["_law_editor", "_law_command_here"] (defScope sToldAct) := ⟨rfl, rfl, rfl, by decide +kernel, rfl, by decide +kernel, by decide +kernel⟩
theorem ok_toldAct {f fA C D fI : Addr} {fd fdA : FuncData} (F : Fun K "_law_told" "_law_told" sToldAct f fd) (T : EdC K mg C) (N : NP P w K mg base D fI) (GA : FnOk P w K mg base (L2.CX P w) 5 fA fdA ["self", "command"] (spAct C D)) (bA : Binds K fdA ["self", "command"] []) (mA : Meth K C "act" fA) :
    FnOk P w K mg base CX0 6 f fd ["_law_editor", "_law_command_here"] (spToldAct C) := by
  refine F.ok scToldAct (fun vs H Q E h => ?_) (fun cdv A outer s H vs Q E hr h => ?_)
  · obtain ⟨e, l, nv, ns, S, cvs, cv, c, rfl, _⟩ := h
    rfl
  · refine ⟨_, pss_one (ps_try_as (i := 2) (tb := fun W => tRet (tMethX C "act" (spAct C D) (WE W) (tVar 0) (tCons (tVar 1) tNil)))
      (ts := fun a cls d => tRet (tTup (tCons (tC (.str "not")) (tCons (tXf a cls d D "why" (tVar 2)) tNil)))) (Wout := fun _ _ _ _ => False) rfl rfl scToldAct.nd rfl rfl ⟨rfl, by decide, Or.inl N.gC⟩ takes0
      (fun W pn xe tk _ => pss_one (ps_ret (by exact (pe_methX (pv 0) T.cl mA GA hr bA (fun σ => passAt tk σ) (by exact (pa_cons (pv 1) pa_nil))))))
      (fun a oe cls d pn hz hf => pss_one (ps_ret (pe_tup (pa_cons pe_str (pa_cons (pe_xf N.xf N.noW hz hf (pv 2)) pa_nil)))))), ?_⟩
    obtain ⟨e, l, nv, ns, S, cvs, cv, c, rfl, hE, hn, hns, hc, hok, h8, h40, h15, kr, kq⟩ := h
    obtain ⟨dx, tc, pre, sv, he, _⟩ := id hE
    refine ⟨_, rfl, e, dx, _, rfl, he, ef_no (by decide +kernel) (by decide +kernel) (by decide +kernel), _, rfl, e, l, nv, ns, S, cvs, cv, c, rfl, hE, hn, hns, hc, hok, h8, h40, h15, fun hw d H' hd s' => ?_, fun hw S' H' hA hE' hK => kq hw S' H' hA hE' hK⟩
    refine ⟨true, N.te, fun _ a ha => ?_, fun q => Bool.noConfusion q⟩
    refine ⟨_, rfl, rfl, rfl, d, _, _, rfl, hd, rfl, by show 2 ≤ sizeLine; decide, fun t ht => ?_⟩
    exact kr hw _ _ ⟨t, rfl, upd_same⟩ (s'.trans (same_new ht))
end
end Kt
namespace Kt
open PySem PySem.Spec PyProof.Rows L2
/-! ### the law's sets and the editor's -/
def Rel1 (p q : Str × List Str) : Prop := p.1 = q.1 ∧ p.2.Perm q.2
abbrev Rel (L S : Sets) : Prop := Paired Rel1 L S
section
variable {α β : Type} {R : α → β → Prop}
theorem pr_get : ∀ {xs : List α} {ys : List β} {i : Nat} {x : α}, Paired R xs ys → xs[i]? = some x → ∃ y, ys[i]? = some y ∧ R x y
  | _, _, _, _, .nil, e => by simp at e
  | _, _, 0, _, .cons r _, e => by
    have e' := Option.some.inj e
    subst e'
    exact ⟨_, rfl, r⟩
  | _, _, i + 1, _, .cons _ t, e => pr_get (i := i) t e
theorem pr_none : ∀ {xs : List α} {ys : List β} {i : Nat}, Paired R xs ys → xs[i]? = none → ys[i]? = none := fun {xs ys i} h e => by
  have hl := Paired.length h
  have h2 := List.getElem?_eq_none_iff.mp e
  exact List.getElem?_eq_none_iff.mpr (by omega)
theorem pr_take : ∀ {xs : List α} {ys : List β} (n : Nat), Paired R xs ys → Paired R (xs.take n) (ys.take n)
  | _, _, 0, _ => .nil
  | _, _, _ + 1, .nil => .nil
  | _, _, n + 1, .cons r t => .cons r (pr_take n t)
theorem pr_drop : ∀ {xs : List α} {ys : List β} (n : Nat), Paired R xs ys → Paired R (xs.drop n) (ys.drop n)
  | _, _, 0, h => h
  | _, _, _ + 1, .nil => .nil
  | _, _, n + 1, .cons _ t => pr_drop n t
theorem pr_app : ∀ {xs us : List α} {ys ws : List β}, Paired R xs ys → Paired R us ws → Paired R (xs ++ us) (ys ++ ws)
  | _, _, _, _, .nil, h => h
  | _, _, _, _, .cons r t, h => .cons r (pr_app t h)
end
theorem rel_len {L S : Sets} (h : Rel L S) : L.length = S.length := Paired.length h
theorem rel_name {L S : Sets} (h : Rel L S) (j : Nat) : (L[j]?).map Prod.fst = (S[j]?).map Prod.fst := by
  cases e : L[j]? with
  | none => rw [pr_none h e]
  | some p =>
    obtain ⟨q, hq, r⟩ := pr_get h e
    rw [hq]
    exact congrArg some r.1
theorem rel_fnd {L S : Sets} (h : Rel L S) (n : Str) (i : Nat) : fnd n L i = fnd n S i := by
  unfold fnd
  congr 1
  funext j
  rw [rel_name h j]
theorem rel_why {L S : Sets} (h : Rel L S) (c : Cmd) : why L c = why S c := by
  have hl := rel_len h
  cases c with
  | add n ch =>
    unfold why
    simp only [rel_fnd h, hl]
  | drop n =>
    unfold why
    simp only [rel_fnd h, hl]
  | put n x =>
    unfold why
    simp only [rel_fnd h, hl]
    cases fnd n S S.length with
    | nil => rfl
    | cons j r =>
      simp only
      cases e : L[j]? with
      | none => rw [pr_none h e]
      | some p =>
        obtain ⟨q, hq, r1⟩ := pr_get h e
        rw [hq]
        simp only [r1.2.mem_iff]
  | take n x =>
    unfold why
    simp only [rel_fnd h, hl]
    cases fnd n S S.length with
    | nil => rfl
    | cons j r =>
      simp only
      cases e : L[j]? with
      | none => rw [pr_none h e]
      | some p =>
        obtain ⟨q, hq, r1⟩ := pr_get h e
        rw [hq]
        simp only [r1.2.mem_iff]
theorem rel_told {ns : List Str} : ∀ {L S : Sets}, Rel L S → told ns L = told ns S
  | _, _, .nil => rfl
  | p :: _, q :: _, .cons r t => by
    have ih := rel_told (ns := ns) t
    unfold told at ih ⊢
    rw [List.map_cons, List.map_cons, ih]
    congr 1
    have e : (ns.filter (· ∈ p.2)) = ns.filter (· ∈ q.2) := by
      congr 1
      funext x
      exact decide_eq_decide.mpr r.2.mem_iff
    rw [r.1, e]
/-! ### the places of the members -/
theorem ix_app {x : Str} : ∀ {l m : List Str}, x ∉ l → ix x (l ++ x :: m) = l.length
  | [], m, _ => if_pos rfl
  | y :: l, m, h => by
    have hy : y ≠ x := fun e => h (by rw [e]; exact List.mem_cons_self)
    have ih := ix_app (x := x) (l := l) (m := m) fun hm => h (List.mem_cons_of_mem _ hm)
    show (if y = x then 0 else ix x (l ++ x :: m) + 1) = _
    rw [if_neg hy, ih]
    rfl
theorem ix_at {ns : List Str} {i : Nat} {x : Str} (hn : ns.Nodup) (h : ns[i]? = some x) : ix x ns = i := by
  have hm := List.mem_of_getElem? h
  obtain ⟨a, _⟩ := ix_spec hm
  exact nd_ix hn a h
theorem row_take {ns ch : List Str} (hn : ns.Nodup) : ∀ i, i ≤ ns.length → ((ns.take i).filter (· ∈ ch)).map (ix · ns) = rowL ns ch i
  | 0, _ => rfl
  | i + 1, h => by
    have hi : i < ns.length := h
    have hx : ns[i]? = some (ns.getD i "") := getD_at hi
    rw [filter_more hx, rowL_more, List.map_append, row_take hn i (by omega)]
    congr 1
    by_cases e : ns.getD i "" ∈ ch
    · simp only [e, decide_true, if_true, List.map_cons, List.map_nil]
      rw [ix_at hn hx]
    · simp only [e, decide_false, Bool.false_eq_true, if_false, List.map_nil]
theorem row_eq {ns ch : List Str} (hn : ns.Nodup) : (ns.filter (· ∈ ch)).map (ix · ns) = rowL ns ch ns.length := by
  have q := row_take (ch := ch) hn ns.length (Nat.le_refl _)
  rw [List.take_length] at q
  exact q
theorem rel_rows {ns : List Str} {L S : Sets} (hn : ns.Nodup) (h : Rel L S) : rowsE ns S = rowsL ns L := by
  unfold rowsE rowsL
  rw [← rel_told (ns := ns) h]
  unfold told
  rw [List.map_map]
  apply List.map_congr_left
  intro p _
  exact row_eq hn
/-! ### what a possible command leaves -/
theorem flat_id {c : Cmd} : ∀ {M : Sets}, (∀ p ∈ M, p.1 ≠ c.name) → M.flatMap (stepB c) = M
  | [], _ => rfl
  | p :: r, h => by
    rw [List.flatMap_cons, flat_id fun q hq => h q (List.mem_cons_of_mem _ hq)]
    have e : stepB c p = [p] := if_neg (h p List.mem_cons_self)
    rw [e]
    rfl
theorem cut_at {L : Sets} {j : Nat} {p : Str × List Str} (h : L[j]? = some p) : L = L.take j ++ p :: L.drop (j + 1) := by
  obtain ⟨hj, e⟩ := List.getElem?_eq_some_iff.mp h
  have q := List.take_append_drop j L
  rw [List.drop_eq_getElem_cons hj, e] at q
  exact q.symm
theorem nd_apart {L : Sets} {j : Nat} {p : Str × List Str} (hn : (L.map Prod.fst).Nodup) (h : L[j]? = some p) : (∀ q ∈ L.take j, q.1 ≠ p.1) ∧ ∀ q ∈ L.drop (j + 1), q.1 ≠ p.1 := by
  rw [cut_at h, List.map_append, List.map_cons] at hn
  obtain ⟨_, h2, h3⟩ := List.nodup_append.mp hn
  obtain ⟨h4, _⟩ := List.nodup_cons.mp h2
  refine ⟨fun q hq e => ?_, fun q hq e => ?_⟩
  · exact h3 q.1 (List.mem_map.mpr ⟨q, hq, rfl⟩) p.1 List.mem_cons_self e
  · exact h4 (List.mem_map.mpr ⟨q, hq, e⟩)
theorem flat_at {c : Cmd} {L : Sets} {j : Nat} {ms : List Str} (hn : (L.map Prod.fst).Nodup) (h : L[j]? = some (c.name, ms)) : L.flatMap (stepB c) = (L.take j ++ stepB c (c.name, ms)) ++ L.drop (j + 1) := by
  obtain ⟨h1, h2⟩ := nd_apart hn h
  have e := cut_at h
  have e2 : L.flatMap (stepB c) = (L.take j ++ (c.name, ms) :: L.drop (j + 1)).flatMap (stepB c) := by rw [← e]
  rw [e2, List.flatMap_append, List.flatMap_cons, flat_id h1, flat_id h2, List.append_assoc]
/-- what holds of the law's sets between two turns, k the most that a set may have -/
structure Good (L : Sets) (k : Nat) : Prop where
  nd : (L.map Prod.fst).Nodup
  len : L.length ≤ 8
  mem : ∀ p ∈ L, p.2.length ≤ k
  ok : ∀ p ∈ L, OkName p.1
theorem Good.mono {L : Sets} {k m : Nat} (h : Good L k) (e : k ≤ m) : Good L m := ⟨h.nd, h.len, fun p hp => Nat.le_trans (h.mem p hp) e, h.ok⟩
theorem names_set {L : Sets} {j : Nat} {n : Str} {ms ms' : List Str} (h : L[j]? = some (n, ms)) : ((L.take j ++ [(n, ms')]) ++ L.drop (j + 1)).map Prod.fst = L.map Prod.fst := by
  have e := cut_at h
  have e2 : L.map Prod.fst = (L.take j ++ (n, ms) :: L.drop (j + 1)).map Prod.fst := by rw [← e]
  rw [e2]
  simp
theorem good_set {L : Sets} {j k : Nat} {n : Str} {ms ms' : List Str} (g : Good L k) (h : L[j]? = some (n, ms)) (hm : ms'.length ≤ ms.length + 1) : Good ((L.take j ++ [(n, ms')]) ++ L.drop (j + 1)) (k + 1) := by
  have hj := (List.getElem?_eq_some_iff.mp h).1
  have hp := List.mem_of_getElem? h
  refine ⟨by rw [names_set h]; exact g.nd, ?_, fun p q => ?_, fun p q => ?_⟩
  · have := g.len
    simp only [List.length_append, List.length_take, List.length_drop, List.length_cons, List.length_nil]
    omega
  · rcases List.mem_append.mp q with q | q
    · rcases List.mem_append.mp q with q | q
      · exact Nat.le_succ_of_le (g.mem p (List.mem_of_mem_take q))
      · have e := List.mem_singleton.mp q
        subst e
        have := g.mem _ hp
        show ms'.length ≤ k + 1
        have h2 : ms.length ≤ k := this
        omega
    · exact Nat.le_succ_of_le (g.mem p (List.mem_of_mem_drop q))
  · rcases List.mem_append.mp q with q | q
    · rcases List.mem_append.mp q with q | q
      · exact g.ok p (List.mem_of_mem_take q)
      · have e := List.mem_singleton.mp q
        subst e
        have q2 : OkName n := g.ok _ hp
        exact q2
    · exact g.ok p (List.mem_of_mem_drop q)
theorem possible {L S S' : Sets} {c : Cmd} {ns : List Str} {k : Nat} (h : Rel L S) (g : Good L k) (hc : OkCmd ns c) (h8 : 8 ≤ k) (hw : why S c = "") (hA : After S S' c) : Rel (behind L c) S' ∧ Good (behind L c) (k + 1) := by
  have hl := rel_len h
  cases c with
  | add n ch =>
    obtain ⟨ch', hp, rfl⟩ := hA
    have hf : fnd n S S.length = [] := by
      by_cases q : fnd n S S.length = []
      · exact q
      · have e : why S (.add n ch) = "exists" := if_neg q
        rw [e] at hw
        exact absurd hw (by decide)
    have hlt : ¬ 8 ≤ S.length := fun q => by
      have e : why S (.add n ch) = "many" := by
        show (if _ then (if _ then _ else _) else _) = _
        rw [if_pos hf, if_pos q]
      rw [e] at hw
      exact absurd hw (by decide)
    refine ⟨pr_app h (.cons ⟨rfl, hp.symm⟩ .nil), ?_, ?_, fun p q => ?_, fun p q => ?_⟩
    · show ((L ++ [(n, ch)]).map Prod.fst).Nodup
      rw [List.map_append]
      refine List.nodup_append.mpr ⟨g.nd, by simp, fun a ha b hb e => ?_⟩
      have eb : b = n := by simpa using hb
      rw [eb] at e
      subst e
      obtain ⟨p, hp', ep⟩ := List.mem_map.mp ha
      obtain ⟨i, hi⟩ := List.mem_iff_getElem?.mp hp'
      have hm : i ∈ fnd a L L.length := by
        unfold fnd
        refine List.mem_filter.mpr ⟨List.mem_range.mpr (List.getElem?_eq_some_iff.mp hi).1, ?_⟩
        rw [hi]
        exact decide_eq_true (congrArg some ep)
      rw [rel_fnd h, hl, hf] at hm
      cases hm
    · show (L ++ [(n, ch)]).length ≤ 8
      rw [List.length_append]
      show L.length + 1 ≤ 8
      omega
    · rcases List.mem_append.mp q with q | q
      · exact Nat.le_succ_of_le (g.mem p q)
      · have e := List.mem_singleton.mp q
        subst e
        exact Nat.le_trans hc.2.2.2 (Nat.le_succ_of_le h8)
    · rcases List.mem_append.mp q with q | q
      · exact g.ok p q
      · have e := List.mem_singleton.mp q
        subst e
        exact hc.1
  | drop n =>
    obtain ⟨j, r, hf, rfl⟩ := hA
    have hfL : fnd n L L.length = j :: r := by rw [rel_fnd h, hl]; exact hf
    obtain ⟨ms, hj, _⟩ := fnd_head hfL
    have e : behind L (.drop n) = L.take j ++ L.drop (j + 1) := by
      have q := flat_at (c := .drop n) g.nd hj
      have e0 : stepB (.drop n) ((Cmd.drop n).name, ms) = [] := if_pos rfl
      rw [e0, List.append_nil] at q
      exact q
    rw [e]
    have hjl := (List.getElem?_eq_some_iff.mp hj).1
    have sub : ((L.take j ++ L.drop (j + 1)).map Prod.fst).Sublist (L.map Prod.fst) := by
      have e1 := cut_at hj
      have e2 : L.map Prod.fst = (L.take j ++ (n, ms) :: L.drop (j + 1)).map Prod.fst := by rw [← e1]
      rw [e2, List.map_append, List.map_append, List.map_cons]
      exact List.Sublist.append (List.Sublist.refl _) (List.sublist_cons_self _ _)
    have mm : ∀ p ∈ L.take j ++ L.drop (j + 1), p ∈ L := fun p q => by
      rcases List.mem_append.mp q with q | q
      · exact List.mem_of_mem_take q
      · exact List.mem_of_mem_drop q
    refine ⟨pr_app (pr_take j h) (pr_drop (j + 1) h), sub.nodup g.nd, ?_, fun p q => Nat.le_succ_of_le (g.mem p (mm p q)), fun p q => g.ok p (mm p q)⟩
    have := g.len
    rw [List.length_append, List.length_take, List.length_drop]
    omega
  | put n x =>
    obtain ⟨j, r, ms, ms', hf, hj, hp, rfl⟩ := hA
    have hfL : fnd n L L.length = j :: r := by rw [rel_fnd h, hl]; exact hf
    obtain ⟨mL, hjL, _⟩ := fnd_head hfL
    obtain ⟨q0, hq0, r1⟩ := pr_get h hjL
    rw [hj] at hq0
    obtain rfl := (Option.some.inj hq0)
    have e : behind L (.put n x) = (L.take j ++ [(n, mL ++ [x])]) ++ L.drop (j + 1) := by
      have q := flat_at (c := .put n x) g.nd hjL
      have e0 : stepB (.put n x) ((Cmd.put n x).name, mL) = [(n, mL ++ [x])] := if_pos rfl
      rw [e0] at q
      exact q
    rw [e]
    refine ⟨pr_app (pr_app (pr_take j h) (.cons ⟨rfl, ?_⟩ .nil)) (pr_drop (j + 1) h), good_set g hjL (by rw [List.length_append]; exact Nat.le_refl _)⟩
    show (mL ++ [x]).Perm ms'
    exact (List.Perm.append_right [x] r1.2).trans hp.symm
  | take n x =>
    obtain ⟨j, r, ms, hf, hj, rfl⟩ := hA
    have hfL : fnd n L L.length = j :: r := by rw [rel_fnd h, hl]; exact hf
    obtain ⟨mL, hjL, _⟩ := fnd_head hfL
    obtain ⟨q0, hq0, r1⟩ := pr_get h hjL
    rw [hj] at hq0
    obtain rfl := (Option.some.inj hq0)
    have e : behind L (.take n x) = (L.take j ++ [(n, mL.filter (· ≠ x))]) ++ L.drop (j + 1) := by
      have q := flat_at (c := .take n x) g.nd hjL
      have e0 : stepB (.take n x) ((Cmd.take n x).name, mL) = [(n, mL.filter (· ≠ x))] := if_pos rfl
      rw [e0] at q
      exact q
    rw [e]
    refine ⟨pr_app (pr_app (pr_take j h) (.cons ⟨rfl, ?_⟩ .nil)) (pr_drop (j + 1) h), good_set g hjL (Nat.le_succ_of_le (List.length_filter_le _ _))⟩
    show (mL.filter (· ≠ x)).Perm (ms.filter (· ≠ x))
    exact r1.2.filter _
/-! ### equal data -/
theorem EqV.up {H : Hp} : ∀ {n : Nat} {x y : V}, EqV H n x y → EqV H (n + 1) x y
  | 0, x, y, h => by
    unfold EqV
    exact .inl h
  | n + 1, x, y, h => by
    unfold EqV at h
    unfold EqV
    rcases h with h | ⟨a, b, xs, ys, e1, e2, h1, h2, hl, hb, h⟩
    · exact .inl h
    · exact .inr ⟨a, b, xs, ys, e1, e2, h1, h2, hl, hb, fun i u v hu hv => EqV.up (h i u v hu hv)⟩
theorem eq_int {H : Hp} (i : Int) : EqV H 0 (.int i) (.int i) := by
  unfold EqV
  exact .inl ⟨i, rfl, rfl⟩
theorem eq_str {H : Hp} (s : Str) : EqV H 0 (.str s) (.str s) := by
  unfold EqV
  exact .inr ⟨s, rfl, rfl⟩
theorem eq_tup {H : Hp} {n : Nat} {a b : Addr} {xs ys : List V} (ha : Rd H a (.tup xs)) (hb : Rd H b (.tup ys)) (hl : xs.length = ys.length) (h1 : xs.length ≤ 1000) (h : ∀ (i : Nat) u v, xs[i]? = some u → ys[i]? = some v → EqV H n u v) : EqV H (n + 1) (.ref a) (.ref b) := by
  unfold EqV
  exact .inr ⟨a, b, xs, ys, rfl, rfl, ha, hb, hl, h1, h⟩
theorem eq_strs {H : Hp} {a b : Addr} {ss : List Str} (ha : Rd H a (.tup (ss.map V.str))) (hb : Rd H b (.tup (ss.map V.str))) (h1 : ss.length ≤ 1000) : EqV H 1 (.ref a) (.ref b) := by
  refine eq_tup ha hb rfl (by rw [List.length_map]; exact h1) fun i u v hu hv => ?_
  rw [hu] at hv
  obtain rfl := Option.some.inj hv
  obtain ⟨x, _, rfl⟩ := str_at hu
  exact eq_str x
theorem eq_nats {H : Hp} {a b : Addr} {row : List Nat} (ha : Rd H a (.tup (natsV row))) (hb : Rd H b (.tup (natsV row))) (h1 : row.length ≤ 1000) : EqV H 1 (.ref a) (.ref b) := by
  refine eq_tup ha hb rfl (by unfold natsV; rw [List.length_map]; exact h1) fun i u v hu hv => ?_
  rw [hu] at hv
  obtain rfl := Option.some.inj hv
  obtain ⟨x, _, rfl⟩ := nat_at hu
  exact eq_int _
theorem eq_pair {H : Hp} {a b : Addr} {x y u v : V} {n : Nat} (ha : H a = some (.tup [x, y])) (hb : H b = some (.tup [u, v])) (h1 : EqV H n x u) (h2 : EqV H n y v) : EqV H (n + 1) (.ref a) (.ref b) := by
  refine eq_tup (.inl ha) (.inl hb) rfl (by show 2 ≤ 1000; decide) fun i p q hp hq => ?_
  match i, hp, hq with
  | 0, hp, hq =>
    obtain rfl := Option.some.inj hp
    obtain rfl := Option.some.inj hq
    exact h1
  | 1, hp, hq =>
    obtain rfl := Option.some.inj hp
    obtain rfl := Option.some.inj hq
    exact h2
  | i + 2, hp, hq => cases hp
theorem eq_sets {H : Hp} {v u : V} {T : Sets} (hv : SetsT H v T) (hu : SetsT H u T) (hl : T.length ≤ 1000) (hm : ∀ p ∈ T, p.2.length ≤ 1000) : EqV H 3 v u := by
  obtain ⟨a, vs, rfl, ha, hvs⟩ := hv
  obtain ⟨b, us, rfl, hb, hus⟩ := hu
  refine eq_tup (.inl ha) (.inl hb) (by rw [paired_len hvs, paired_len hus]) (by rw [paired_len hvs]; exact hl) fun i p q hp hq => ?_
  obtain ⟨t, ht, pa, pq, rfl, hpa, ⟨qa, rfl, hqa⟩⟩ := paired_get hvs hp
  obtain ⟨t', ht', pa', pq', rfl, hpa', ⟨qa', rfl, hqa'⟩⟩ := paired_get hus hq
  rw [ht] at ht'
  obtain rfl := Option.some.inj ht'
  exact eq_pair hpa hpa' (EqV.up (eq_str _)) (eq_strs (.inl hqa) (.inl hqa') (hm t (List.mem_of_getElem? ht)))
theorem eq_sys {H : Hp} {v u : V} {n : Nat} {rows : List (List Nat)} (hv : SysV H v n rows) (hu : SysV H u n rows) (hl : rows.length ≤ 1000) (hm : ∀ r ∈ rows, r.length ≤ 1000) : EqV H 3 v u := by
  obtain ⟨a, b, vs, rfl, ha, hb, hvs⟩ := hv
  obtain ⟨a', b', us, rfl, ha', hb', hus⟩ := hu
  refine eq_pair ha ha' (EqV.up (EqV.up (eq_int _))) (eq_tup (.inl hb) (.inl hb') (by rw [paired_len hvs, paired_len hus]) (by rw [paired_len hvs]; exact hl) fun i p q hp hq => ?_)
  obtain ⟨t, ht, pa, rfl, hpa⟩ := paired_get hvs hp
  obtain ⟨t', ht', pa', rfl, hpa'⟩ := paired_get hus hq
  rw [ht] at ht'
  obtain rfl := Option.some.inj ht'
  exact eq_nats (.inl hpa) (.inl hpa') (hm t (List.mem_of_getElem? ht))
theorem eq_not {H : Hp} {v u : V} {x : Str} (hv : NotV H v x) (hu : NotV H u x) : EqV H 1 v u := by
  obtain ⟨a, rfl, ha⟩ := hv
  obtain ⟨b, rfl, hb⟩ := hu
  exact eq_pair ha hb (eq_str _) (eq_str _)
/-- a command equals itself -/
theorem eq_cmd {H : Hp} {v : V} {c : Cmd} (h : CmdV H v c) (hl : ∀ n ch, c = .add n ch → ch.length ≤ 1000) : EqV H 2 v v := by
  cases c with
  | add n ch =>
    obtain ⟨a, q, rfl, ha, ⟨b, rfl, hb⟩⟩ := h
    refine eq_tup (.inl ha) (.inl ha) rfl (by show 3 ≤ 1000; decide) fun i p q hp hq => ?_
    rw [hp] at hq
    obtain rfl := Option.some.inj hq
    match i, hp with
    | 0, hp =>
      obtain rfl := Option.some.inj hp
      exact EqV.up (eq_str _)
    | 1, hp =>
      obtain rfl := Option.some.inj hp
      exact EqV.up (eq_str _)
    | 2, hp =>
      obtain rfl := Option.some.inj hp
      exact eq_strs (.inl hb) (.inl hb) (hl n ch rfl)
    | i + 3, hp => cases hp
  | drop n =>
    obtain ⟨a, rfl, ha⟩ := h
    exact EqV.up (eq_strs (ss := ["drop", n]) (.inl ha) (.inl ha) (by show 2 ≤ 1000; decide))
  | put n x =>
    obtain ⟨a, rfl, ha⟩ := h
    exact EqV.up (eq_strs (ss := ["put", n, x]) (.inl ha) (.inl ha) (by show 3 ≤ 1000; decide))
  | take n x =>
    obtain ⟨a, rfl, ha⟩ := h
    exact EqV.up (eq_strs (ss := ["take", n, x]) (.inl ha) (.inl ha) (by show 3 ≤ 1000; decide))
end Kt
namespace Kt
open PySem PySem.Spec PyProof.Rows L2
theorem SysV.same {H H' : Hp} {v : V} {n : Nat} {rows : List (List Nat)} (s : Same H H') (h : SysV H v n rows) : SysV H' v n rows := let ⟨a, b, vs, e, h1, h2, h3⟩ := h; ⟨a, b, vs, e, s _ _ h1, s _ _ h2, rows_tk (Same.tk s) h3⟩
theorem FrzT.keep2 {e l C dx : Addr} {fs : List (Str × V)} {H H' : Hp} {xs : List V} {v : V} {ns : List Str} (k : Keep2 e l H H') (hl : H l = some (.lst xs)) (he : H e = some (.ins C dx fs)) (h : FrzT H v ns) : FrzT H' v ns :=
  let ⟨a, o, ev, q, d⟩ := h; ⟨a, o, ev, k _ _ q (ne_of q he (by intro z; cases z)) (ne_of q hl (by intro z; cases z)), d⟩
theorem EdAt.keep {C : Addr} {s : Addr} {H H' : Hp} {xs : List V} {e l : Addr} {nv : V} {S : Sets} {cvs : List V} (k : Keep s H H') (hs : H s = some (.lst xs)) (nl : l ≠ s) (h : EdAt C H e l nv S cvs) : EdAt C H' e l nv S cvs :=
  let ⟨dx, cv, pre, sv, h1, h2, h3, h4, h5⟩ := h
  ⟨dx, cv, pre, sv, k _ _ h1 (ne_of h1 hs (by intro z; cases z)), k _ _ h2 nl, h3.tk (Keep.tk k hs), k _ _ h4 (ne_of h4 hs (by intro z; cases z)), h5⟩
theorem Keep2.trans {e l : Addr} {H H1 H2 : Hp} (a : Keep2 e l H H1) (b : Keep2 e l H1 H2) : Keep2 e l H H2 := fun c o h n1 n2 => b c o (a c o h n1 n2) n1 n2
theorem Same.keep2 {e l : Addr} {H H' : Hp} (a : Same H H') : Keep2 e l H H' := fun b o h _ _ => a b o h
def forBody : Stmt → List Stmt
  | .For _ _ b _ _ => b
  | _ => []
abbrev nLaw : List Str := ["_law_script", "_law_stream_here", "_law_names", "_law_editor", "_law_sets", "_law_journal", "_law_turn", "_law_command_here", "_law_due"]
/-- every command is one that equals itself -/
def Cmds (H : Hp) (cvs : List V) : Prop := ∀ v ∈ cvs, ∃ c, CmdV H v c ∧ ∀ n ch, c = .add n ch → ch.length ≤ 8
theorem Cmds.tk {H H' : Hp} {cvs : List V} (k : TKeep H H') (h : Cmds H cvs) : Cmds H' cvs := fun v hv => let ⟨c, a, b⟩ := h v hv; ⟨c, a.tk k, b⟩
theorem eq_cmds {H : Hp} {a b : Addr} {cvs : List V} (ha : H a = some (.tup cvs)) (hb : H b = some (.tup cvs)) (hl : cvs.length ≤ 1000) (h : Cmds H cvs) : EqV H 3 (.ref a) (.ref b) := by
  refine eq_tup (.inl ha) (.inl hb) rfl hl fun i u v hu hv => ?_
  rw [hu] at hv
  obtain rfl := Option.some.inj hv
  obtain ⟨c, hc, hl⟩ := h u (List.mem_of_getElem? hu)
  exact eq_cmd hc fun n ch e => Nat.le_trans (hl n ch e) (by decide)
theorem eq_names {H : Hp} {v : V} {ns : List Str} (h : FrzT H v ns) (hl : ns.length ≤ 1000) : EqV H 3 v v := by
  obtain ⟨a, o, rfl, q, _⟩ := h
  exact EqV.up (EqV.up (eq_strs (.inr ⟨o, q⟩) (.inr ⟨o, q⟩) hl))
theorem behind_len {L : Sets} {c : Cmd} (h8 : L.length ≤ 8) (hw : why L c = "") : (behind L c).length ≤ 8 := by
  cases c with
  | add n ch =>
    have hlt : ¬ 8 ≤ L.length := fun q => by
      by_cases hf : fnd n L L.length = []
      · have e : why L (.add n ch) = "many" := by
          show (if _ then (if _ then _ else _) else _) = _
          rw [if_pos hf, if_pos q]
        rw [e] at hw
        exact absurd hw (by decide)
      · have e : why L (.add n ch) = "exists" := if_neg hf
        rw [e] at hw
        exact absurd hw (by decide)
    show (L ++ [(n, ch)]).length ≤ 8
    rw [List.length_append]
    show L.length + 1 ≤ 8
    omega
  | drop n => exact Nat.le_trans (flat_len _ L) h8
  | put n x => exact Nat.le_trans (flat_len _ L) h8
  | take n x => exact Nat.le_trans (flat_len _ L) h8
theorem told_all {ns : List Str} {S : Sets} : ∀ p ∈ told ns S, p.2.length ≤ ns.length := fun p hp => by
  obtain ⟨i, hi⟩ := List.mem_iff_getElem?.mp hp
  exact told_len hi
theorem rows_all {ns : List Str} {S : Sets} : ∀ r ∈ rowsE ns S, r.length ≤ ns.length := fun r hr => by
  unfold rowsE at hr
  obtain ⟨p, hp, rfl⟩ := List.mem_map.mp hr
  rw [List.length_map]
  exact told_all p hp
theorem rel_mem {k : Nat} : ∀ {L S : Sets}, Rel L S → (∀ p ∈ L, p.2.length ≤ k) → ∀ q ∈ S, q.2.length ≤ k
  | _, _, .nil, _, q, hq => by cases hq
  | p :: _, q0 :: _, .cons r t, h, q, hq => by
    rcases List.mem_cons.mp hq with e | hq
    · rw [e, ← r.2.length_eq]
      exact h p List.mem_cons_self
    · exact rel_mem t (fun z hz => h z (List.mem_cons_of_mem _ hz)) q hq
theorem NotV.same {H H' : Hp} {v : V} {x : Str} (s : Same H H') (h : NotV H v x) : NotV H' v x := let ⟨a, e, q⟩ := h; ⟨a, e, s _ _ q⟩
theorem StreamV.keep2 {e l C dx : Addr} {fs : List (Str × V)} {H H' : Hp} {s c : Addr} (k : Keep2 e l H H') (he : H e = some (.ins C dx fs)) (n1 : s ≠ l) (n2 : c ≠ l) (h : StreamV H s c) : StreamV H' s c := by
  obtain ⟨xs, hs⟩ := h.lst
  obtain ⟨ys, hc⟩ := h.cells
  exact h.but (fun o q => k _ _ q (ne_of hs he (by intro z; cases z)) n1) (fun o q => k _ _ q (ne_of hc he (by intro z; cases z)) n2)
section
variable {P : Program} {w : World} {K : PySem.W.Frag} {mg : Str → Option Value} {base : Heap}
def spLaw (K : PySem.W.Frag) : Sp := fun vs H Q _ => ∃ (a : Addr) (ns : List Int), vs = [.ref a] ∧ SqL K H a (ns.map V.int) ∧ ns.length ≤ 63 ∧ ∀ H', Q (.bl true) H'
theorem scLaw : FnScope nLaw ["_law_script"] (defScope sLaw) := ⟨rfl, rfl, rfl, by decide +kernel, rfl, by decide +kernel, by decide +kernel⟩
theorem ok_law {f C fE fMS fMY fMJ fMN : Addr} {fd fdE fdS fdY fdJ fdN : FuncData} (F : Fun K "law" "law" sLaw f fd) (B : Blt mg) (T : EdC K mg C) (ME : Mk K C fE) (GE : FnOk P w K mg base CX0 3 fE fdE ["self", "names"] (spEdInit C)) (bE : Binds K fdE ["self", "names"] [])
    (GMS : FnOk P w K mg base CX0 2 fMS fdS ["self"] (spSets C)) (bMS : Binds K fdS ["self"] []) (mMS : Meth K C "sets" fMS)
    (GMY : FnOk P w K mg base CX0 3 fMY fdY ["self"] (spSystem C)) (bMY : Binds K fdY ["self"] []) (mMY : Meth K C "system" fMY)
    (GMJ : FnOk P w K mg base CX0 1 fMJ fdJ ["self"] (spJournal C)) (bMJ : Binds K fdJ ["self"] []) (mMJ : Meth K C "journal" fMJ)
    (GMN : FnOk P w K mg base CX0 1 fMN fdN ["self"] (spNames C)) (bMN : Binds K fdN ["self"] []) (mMN : Meth K C "names" fMN)
    (HSt : Has P w K mg base CX0 1 "_law_stream" ["_law_script"] (spStream K)) (HN : Has P w K mg base CX0 1 "_law_next" ["_law_stream_here", "_law_many"] spNext) (HWo : Has P w K mg base CX0 3 "_law_words" ["_law_stream_here", "_law_size"] spWords)
    (HC : Has P w K mg base CX0 3 "_law_command" ["_law_stream_here", "_law_names", "_law_sets"] spCommand) (HW : Has P w K mg base CX0 1 "_law_why_not" ["_law_sets", "_law_command_here"] spWhy)
    (HB : Has P w K mg base CX0 1 "_law_behind" ["_law_names", "_law_sets", "_law_command_here"] spBehind) (HD : Has P w K mg base CX0 1 "_law_told_sets" ["_law_names", "_law_sets"] spTold)
    (HY : Has P w K mg base CX0 1 "_law_system_of" ["_law_names", "_law_sets"] spSysOf) (HA : Has P w K mg base CX0 6 "_law_told" ["_law_editor", "_law_command_here"] (spToldAct C)) (HQ : Has P w K mg base CX0 5 "_law_equal" ["_law_actual", "_law_due"] (spEq 3)) :
    FnOk P w K mg base CX0 7 f fd ["_law_script"] (spLaw K) := by
  obtain ⟨fSt, fdSt, GSt, mSt, kSt, bSt⟩ := HSt
  obtain ⟨fN, fdN', GN, mN, kN, bN⟩ := HN
  obtain ⟨fWo, fdWo, GWo, mWo, kWo, bWo⟩ := HWo
  obtain ⟨fC, fdC, GC, mC, kC, bC⟩ := HC
  obtain ⟨fW, fdW, GW, mW, kW, bW⟩ := HW
  obtain ⟨fB, fdB, GB, mB, kB, bB⟩ := HB
  obtain ⟨fD, fdD, GD, mD, kD, bD⟩ := HD
  obtain ⟨fY, fdY', GY, mY, kY, bY⟩ := HY
  obtain ⟨fA, fdA, GA, mA, kA, bA⟩ := HA
  obtain ⟨fQ, fdQ, GQ, mQ, kQ, bQ⟩ := HQ
  refine F.ok scLaw (fun vs H Q E h => ?_) (fun cdv A outer s0 H vs Q E hr h => ?_)
  · obtain ⟨a, ns, rfl, _⟩ := h
    rfl
  · have hr1 : Room 1 _ := hr.mono (by decide)
    have hr2 : Room 2 _ := hr.mono (by decide)
    have hr3 : Room 3 _ := hr.mono (by decide)
    have hr4 : Room 4 _ := hr.mono (by decide)
    have hr5 : Room 5 _ := hr.mono (by decide)
    have tail : ∃ t, PSs (cxOf CX0 P w K mg base nLaw "law" (defScope sLaw) f cdv A outer s0 H E).nox ((forBody ((defBody sLaw).getD 5 (.Pass ⟨0, 0, 0, 0⟩))).drop 3) t ∧
        ∀ (D : Ends) (H2 : Hp) (a s e l sa ja : Addr) (v6 : Option V) (nv cv dv : V) (ns : List Str) (L S0 : Sets) (svs cvs cvs0 : List V) (k9 : Nat), ns.Nodup → ns.length ≤ 8 → FrzT H2 nv ns → EdAt C H2 e l nv S0 cvs0 → H2 sa = some (.lst svs) → Paired (PairV H2) svs L → sa ≠ l → L.length ≤ 8 → H2 ja = some (.tup cvs) → cvs.length ≤ 20 → Cmds H2 cvs →
          (∀ Q : VK, (∀ rv H3 S, EdAt C H3 e l nv S cvs → Rel L S → Good L k9 → EqV H3 3 rv dv → Keep2 e l H2 H3 → Q rv H3) → spToldAct C [.ref e, cv] H2 Q E0) →
          (∀ H4 S, EdAt C H4 e l nv S cvs → Rel L S → Good L k9 → Keep2 e l H2 H4 → D.nx [some (.ref a), some (.ref s), some nv, some (.ref e), some (.ref sa), some (.ref ja), v6, some cv, some dv] H4) →
          t D [some (.ref a), some (.ref s), some nv, some (.ref e), some (.ref sa), some (.ref ja), v6, some cv, some dv] H2 := by
      refine ⟨_, pss_cons (ps_if (pt_not (pt_val (pe_call GQ hr5 (by rfl) mQ kQ bQ .nil pass0 (pa_cons (pe_call GA hr (by rfl) mA kA bA .nil pass0 (pa_cons (pv 3) (pa_cons (pv 7) pa_nil))) (pa_cons (pv 8) pa_nil))))) (pss_one ps_never) pss_nil)
        (pss_cons (ps_if (PW.pt (pw_or (pt_not (pt_val (pe_call GQ hr5 (by rfl) mQ kQ bQ .nil pass0 (pa_cons (pe_meth0 (pv 3) T.cl mMS GMS hr2 bMS .nil pass0) (pa_cons (pe_call GD hr1 (by rfl) mD kD bD .nil pass0 (pa_cons (pv 2) (pa_cons (pv 4) pa_nil))) pa_nil))))) (pw_or1 (pt_not (pt_val (pe_call GQ hr5 (by rfl) mQ kQ bQ .nil pass0 (pa_cons (pe_meth0 (pv 3) T.cl mMY GMY hr3 bMY .nil pass0) (pa_cons (pe_call GY hr1 (by rfl) mY kY bY .nil pass0 (pa_cons (pv 2) (pa_cons (pv 4) pa_nil))) pa_nil)))))))) (pss_one ps_never) pss_nil)
        (pss_one (ps_if (pt_not (pt_val (pe_call GQ hr5 (by rfl) mQ kQ bQ .nil pass0 (pa_cons (pe_meth0 (pv 3) T.cl mMJ GMJ hr1 bMJ .nil pass0) (pa_cons (pv 5) pa_nil))))) (pss_one ps_never) pss_nil))), ?_⟩
      intro D H2 a s e l sa ja v6 nv cv dv ns L S0 svs cvs cvs0 k9 hnd hn8 hF hE0 hsa hL nsl hL8 hja hcl hcm TA kk
      obtain ⟨dx0, tc0, pre0, sv0, he0, hl0, _⟩ := id hE0
      refine ⟨_, rfl, _, rfl, TA _ fun rv H3 S hE3 hR hG hEq hK3 => ⟨_, rfl, rv, dv, rfl, hEq, fun H4 s4 => ⟨true, rfl, ?_⟩⟩⟩
      have hE4 := hE3.same s4
      have k24 := hK3.trans (Same.keep2 s4)
      have tk4 : TKeep H2 H4 := (Keep2.tk hK3 hl0 he0).trans (Same.tk s4)
      have hF4 := (hF.keep2 hK3 hl0 he0).same s4
      have hsa4 := s4 _ _ (hK3 _ _ hsa (ne_of hsa he0 (by intro z; cases z)) nsl)
      have hL4 := pairs_tk tk4 hL
      have hja4 := tk4 _ _ hja
      obtain ⟨dx, tc, pre, sv, he4, hl4, hS4, htc4, hpl⟩ := id hE4
      have hSl : S.length ≤ 100 := by rw [← rel_len hR]; omega
      have hTl : (told ns S).length ≤ 1000 := by unfold told; rw [List.length_map]; omega
      refine ⟨_, rfl, e, dx, _, rfl, he4, ef_no (by decide +kernel) (by decide +kernel) (by decide +kernel), e, l, nv, ns, S, cvs, rfl, hE4, hF4.nam, by omega, hSl, fun v5 H5 hv5 s5 => ?_⟩
      refine ⟨_, rfl, _, rfl, nv, ns, sa, svs, L, rfl, (hF4.same s5).nam, by omega, s5 _ _ hsa4, pairs_same s5 hL4, by omega, fun v7 H6 hv7 s6 => ?_⟩
      refine ⟨v5, v7, rfl, eq_sets (hv5.same s6) (by rw [← rel_told hR]; exact hv7) hTl (fun p hp => Nat.le_trans (told_all p hp) (by omega)), fun H7 s7 => ⟨true, rfl, ?_⟩⟩
      have s47 := s5.trans (s6.trans s7)
      refine ⟨_, rfl, e, dx, _, rfl, s47 _ _ he4, ef_no (by decide +kernel) (by decide +kernel) (by decide +kernel), e, l, nv, ns, S, cvs, rfl, hE4.same s47, hF4.same s47, by omega, hSl, fun v8 H8 hv8 s8 => ?_⟩
      have s48 := s47.trans s8
      refine ⟨_, rfl, _, rfl, nv, ns, sa, svs, L, rfl, (hF4.same s48).nam, by omega, s48 _ _ hsa4, pairs_same s48 hL4, by omega, fun v9 H9 hv9 s9 => ?_⟩
      refine ⟨v8, v9, rfl, eq_sys (hv8.same s9) (by rw [rel_rows hnd hR]; exact hv9) (by unfold rowsE; rw [List.length_map]; exact hTl) (fun r hr => Nat.le_trans (rows_all r hr) (by omega)), fun H10 s10 => ⟨true, rfl, ?_⟩⟩
      have s4A := s48.trans (s9.trans s10)
      refine ⟨_, rfl, e, dx, _, rfl, s4A _ _ he4, ef_no (by decide +kernel) (by decide +kernel) (by decide +kernel), e, dx, l, tc, nv, rfl, s4A _ _ he4, _, rfl, .ref tc, .ref ja, rfl, eq_cmds (s4A _ _ htc4) (s4A _ _ hja4) (by omega) (hcm.tk (tk4.trans (Same.tk s4A))), fun HB sB => ⟨true, rfl, ?_⟩⟩
      exact kk HB S (hE4.same (s4A.trans sB)) hR hG (k24.trans (Same.keep2 (s4A.trans sB)))
    obtain ⟨t, ht, read⟩ := tail
    refine ⟨_, pss_cons (ps_set (i := 1) scLaw.nd rfl (Or.inl rfl) (pe_call GSt hr1 (by rfl) mSt kSt bSt .nil pass0 (pa_cons (pv 0) pa_nil)))
      (pss_cons (ps_set (i := 2) scLaw.nd rfl (Or.inl rfl) (pe_call GWo hr3 (by rfl) mWo kWo bWo .nil pass0 (pa_cons (pv 1) (pa_cons (pe_op op_add pe_int (pe_call GN hr1 (by rfl) mN kN bN .nil pass0 (pa_cons (pv 1) (pa_cons pe_int pa_nil)))) pa_nil))))
      (pss_cons (ps_set (i := 3) scLaw.nd rfl (Or.inl rfl) (pe_make ME GE hr4 (by rfl) T.gC bE .nil pass0 (pa_cons (pv 2) pa_nil)))
      (pss_cons (ps_set (i := 4) scLaw.nd rfl (Or.inl rfl) (pe_lst pa_nil))
      (pss_cons (ps_set (i := 5) scLaw.nd rfl (Or.inl rfl) (pe_tup pa_nil))
      (pss_cons (ps_for PassesOwn.never rfl (pi_range1 (by rfl) B.range (pa_cons (pe_call GN hr1 (by rfl) mN kN bN .nil pass0 (pa_cons (pv 1) (pa_cons pe_int pa_nil))) pa_nil)) (pg_name (i := 6) scLaw.nd rfl (Or.inl rfl)) (pss_cons (ps_set (i := 7) scLaw.nd rfl (Or.inl rfl) (pe_call GC hr3 (by rfl) mC kC bC .nil pass0 (pa_cons (pv 1) (pa_cons (pv 2) (pa_cons (pv 4) pa_nil)))))
      (pss_cons (ps_set (i := 8) scLaw.nd rfl (Or.inl rfl) (pe_call GW hr1 (by rfl) mW kW bW .nil pass0 (pa_cons (pv 4) (pa_cons (pv 7) pa_nil))))
      (pss_cons (ps_if (pt_cmpR op_eq (pv 8) pe_str (nomark _)) (pss_cons (ps_set (i := 4) scLaw.nd rfl (Or.inl rfl) (pe_call GB hr1 (by rfl) mB kB bB .nil pass0 (pa_cons (pv 2) (pa_cons (pv 4) (pa_cons (pv 7) pa_nil)))))
      (pss_cons (ps_set (i := 5) scLaw.nd rfl (Or.inl rfl) (pe_op op_catA (pv 5) (pe_tup (pa_cons (pv 7) pa_nil))))
      (pss_one (ps_set (i := 8) scLaw.nd rfl (Or.inl rfl) (pe_callB call_len (by rfl) B.len PySem.boot_len (pa_cons (pv 5) pa_nil)))))) (pss_one (ps_set (i := 8) scLaw.nd rfl (Or.inl rfl) (pe_tup (pa_cons pe_str (pa_cons (pv 8) pa_nil))))))
      (ht)))))
      (pss_one (ps_ret (pe_and (pe_call GQ hr5 (by rfl) mQ kQ bQ .nil pass0 (pa_cons (pe_meth0 (pv 3) T.cl mMN GMN hr1 bMN .nil pass0) (pa_cons (pv 2) pa_nil))) (pe_one (pe_call GQ hr5 (by rfl) mQ kQ bQ .nil pass0 (pa_cons (pe_meth0 (pv 3) T.cl mMS GMS hr2 bMS .nil pass0) (pa_cons (pe_call GD hr1 (by rfl) mD kD bD .nil pass0 (pa_cons (pv 2) (pa_cons (pv 4) pa_nil))) pa_nil)))))))))))), ?_⟩
    obtain ⟨a, ns0, rfl, ha, hlen, k⟩ := h
    refine ⟨_, rfl, a, ns0, rfl, ha, fun s c H1 hS1 hs0 s1 => ?_⟩
    refine ⟨_, rfl, _, rfl, s, c, 6, rfl, hS1, by omega, by omega, fun d H2 hd0 hd1 hS2 hK2 => ⟨_, _, rfl, rfl, ?_⟩⟩
    obtain ⟨m, hm⟩ : ∃ m : Nat, 1 + d = (m : Int) := ⟨(1 + d).toNat, by omega⟩
    refine ⟨s, c, m, by rw [← hm]; rfl, hS2, by omega, fun nv ns H3 hF3 hok hnd hnl hS3 hK3 => ?_⟩
    have hn1 : 1 ≤ ns.length := by omega
    have hn8 : ns.length ≤ 8 := by omega
    -- Editor(names)
    refine ⟨_, rfl, fun e dx hen hdn hne => ?_⟩
    have sE : Same H3 (upd (upd H3 dx (.own e)) e (.ins C dx [])) := fun b o q => by
      rw [upd_ne (ne_of_none q hen), upd_ne (ne_of_none q hdn)]
      exact q
    refine ⟨e, dx, nv, ns, rfl, upd_same, (hF3.same sE).nam, hok, hnd, hn1, hn8, fun l H4 hE4 hl4 k4 => ⟨rfl, ?_⟩⟩
    have s34 : Same H3 H4 := fun b o q => k4 b o (sE b o q) (ne_of_none q hen)
    have hl3 : H3 l = none := Same.free sE hl4
    refine ⟨by show 0 ≤ sizeLine; omega, fun sa hsa => ?_⟩
    have s5 := same_new (o := HO.lst []) hsa
    refine ⟨by show 0 ≤ sizeLine; omega, fun ja hja => ?_⟩
    have s6 := same_new (o := HO.tup []) hja
    have s46 : Same H4 (upd (upd H4 sa (.lst [])) ja (.tup [])) := s5.trans s6
    obtain ⟨sx3, hsx3⟩ := hS3.lst
    obtain ⟨cx3, hcx3⟩ := hS3.cells
    have nls : l ≠ s := (ne_of_none hsx3 hl3).symm
    have nlc : c ≠ l := ne_of_none hcx3 hl3
    have nas : sa ≠ s := (ne_of_none (s34 _ _ hsx3) hsa).symm
    obtain ⟨dx4, tc4, pre4, sv4, he4, hll4, _⟩ := id hE4
    have nal : sa ≠ l := (ne_of_none hll4 hsa).symm
    have hsa6 : upd (upd H4 sa (.lst [])) ja (.tup []) sa = some (.lst []) := s6 _ _ upd_same
    have hja6 : upd (upd H4 sa (.lst [])) ja (.tup []) ja = some (.tup []) := upd_same
    generalize upd (upd H4 sa (.lst [])) ja (.tup []) = H6 at s46 hsa6 hja6
    have hS6 := hS3.same (s34.trans s46)
    have hF6 := hF3.same (s34.trans s46)
    have hE6 := hE4.same s46
    obtain ⟨sx6, hsx6⟩ := hS6.lst
    refine ⟨_, rfl, s, c, 13, rfl, hS6, by omega, by omega, fun d2 H7 h20 h21 hS7 hK7 => ?_⟩
    have tk7 := Keep.tk hK7 hsx6
    refine ⟨d2, rfl, by omega, by omega, for_range (lo := 0) (n := d2.toNat) (fun i σ H' => ∃ (sa ja : Addr) (v6 v7 v8 : Option V) (L S : Sets) (cvs svs : List V), σ = [some (.ref a), some (.ref s), some nv, some (.ref e), some (.ref sa), some (.ref ja), v6, v7, v8] ∧ StreamV H' s c ∧ FrzT H' nv ns ∧ EdAt C H' e l nv S cvs ∧
        H' sa = some (.lst svs) ∧ Paired (PairV H') svs L ∧ sa ≠ s ∧ sa ≠ l ∧ H' ja = some (.tup cvs) ∧ Cmds H' cvs ∧ Rel L S ∧ Good L (8 + i) ∧ cvs.length ≤ i)
      ⟨sa, ja, none, none, none, [], [], [], [], rfl, hS7, hF6.keep hK7 hsx6, hE6.keep hK7 hsx6 nls, hK7 _ _ hsa6 nas, .nil, nas, nal, tk7 _ _ hja6, fun _ z => (nomatch z), .nil, ⟨List.nodup_nil, Nat.zero_le _, fun _ z => (nomatch z), fun _ z => (nomatch z)⟩, Nat.zero_le _⟩ ?_ ?_⟩
    · rintro i σ H8 hi ⟨sa, ja, v6, v7, v8, L, S, cvs, svs, rfl, hS, hF, hE, hsa, hL, nas, nal, hja, hcm, hR, hG, hcl⟩
      have hi12 : i < 13 := by omega
      obtain ⟨sx, hsx⟩ := hS.lst
      have hL8 := hG.len
      -- the command
      refine ⟨_, rfl, _, rfl, _, rfl, s, c, nv, ns, sa, svs, L, rfl, hS, hF.nam, hn1, hn8, hnd, hsa, hL, nas, by omega, hG.ok, fun cv cmd H9 hcv hokc hS9 hK9 => ?_⟩
      have tk9 := Keep.tk hK9 hsx
      have hF9 := hF.keep hK9 hsx
      have hE9 := hE.keep hK9 hsx nls
      have hsa9 := hK9 _ _ hsa nas
      have hL9 := pairs_tk tk9 hL
      have hja9 := tk9 _ _ hja
      have hcm9 := hcm.tk tk9
      have hcs : ∀ n ch, cmd = .add n ch → ch.length ≤ 8 := fun n ch ec => by
        rw [ec] at hokc
        exact hokc.2.2.2
      -- why not
      refine ⟨_, rfl, _, rfl, sa, svs, L, cv, cmd, rfl, hsa9, hL9, by omega, hcv, fun H10 s10 => ?_⟩
      have hS10 := hS9.same s10
      obtain ⟨sx10, hsx10⟩ := hS10.lst
      obtain ⟨cx10, hcx10⟩ := hS10.cells
      refine ⟨_, rfl, rfl, _, rfl, ?_⟩
      have hwe := rel_why hR cmd
      have hS8 : S.length ≤ 8 := by rw [← rel_len hR]; exact hL8
      have hS40 : ∀ p ∈ S, p.2.length ≤ 40 := rel_mem hR fun p hp => Nat.le_trans (hG.mem p hp) (by omega)
      by_cases hw : why L cmd = ""
      · refine iteD (by rw [hw]) ?_
        refine ⟨_, rfl, _, rfl, _, rfl, nv, sa, svs, L, cv, cmd, rfl, s10 _ _ hsa9, pairs_same s10 hL9, by omega, fun p hp => Nat.le_trans (hG.mem p hp) (by omega), hcv.same s10, fun q ws H11 hq hqn hW s11 => ?_⟩
        refine ⟨_, rfl, _, rfl, by show 1 ≤ sizeLine; decide, fun t1 ht1 => ?_⟩
        have s12 := same_new (o := HO.tup [cv]) ht1
        have sA := s10.trans (s11.trans s12)
        refine cat_any (xs := cvs) (ys := [cv]) (sA _ _ hja9) upd_same (by show cvs.length + 1 ≤ 1000; omega) fun p5 H12 hp5 s13 => ?_
        refine ⟨_, rfl, _, _, rfl, .inr ⟨_, SqT.of hp5, rfl⟩, ?_⟩
        have sB := sA.trans s13
        have s1213 : Same H11 H12 := s12.trans s13
        have hE12 := hE9.same sB
        obtain ⟨dxB, tcB, preB, svB, heB, hlB, _⟩ := id hE12
        have nqs : q ≠ s := (ne_of_none hsx10 hqn).symm
        have nql : q ≠ l := by
          obtain ⟨dxC, tcC, preC, svC, heC, hlC, _⟩ := id (hE9.same s10)
          exact (ne_of_none hlC hqn).symm
        have hcvB := hcv.same sB
        have hcmB : Cmds H12 (cvs ++ [cv]) := fun v hv => by
          rcases List.mem_append.mp hv with hv | hv
          · exact (hcm9.tk (Same.tk sB)) v hv
          · have ev := List.mem_singleton.mp hv
            subst ev
            exact ⟨cmd, hcvB, hcs⟩
        refine read _ H12 a s e l q p5 _ nv cv _ ns (behind L cmd) S ws (cvs ++ [cv]) cvs (8 + i + 1) hnd hn8 (hF9.same sB) hE12 (s1213 _ _ hq) (pairs_same s1213 hW) nql ?_ hp5 (by rw [List.length_append]; show cvs.length + 1 ≤ 20; omega) hcmB (fun Q2 kQ => ?_) (fun H13 S13 hE13 hR13 hG13 hK13 => ?_)
        · exact behind_len hL8 hw
        · refine ⟨e, l, nv, ns, S, cvs, cv, cmd, rfl, hE12, (hF9.same sB).nam, hok, hcvB, hokc, hS8, hS40, by omega, fun h => absurd (hwe.symm.trans hw) h, fun hw' S' H13 hA hE13 hK13 => ?_⟩
          obtain ⟨pR, pG⟩ := possible hR hG hokc (by omega) hw' hA
          refine kQ _ H13 S' hE13 pR pG ?_ hK13
          have el : (((cvs ++ [cv]).length : Nat) : Int) = ((cvs.length + 1 : Nat) : Int) := by rw [List.length_append]; rfl
          show EqV H13 3 (.int ((cvs.length + 1 : Nat) : Int)) (.int (((cvs ++ [cv]).length : Nat) : Int))
          rw [el]
          exact EqV.up (EqV.up (EqV.up (eq_int _)))
        · have tkE := Keep2.tk hK13 hlB heB
          refine ⟨q, p5, _, _, _, behind L cmd, S13, cvs ++ [cv], ws, rfl, (hS9.same sB).keep2 hK13 heB nls.symm nlc, (hF9.same sB).keep2 hK13 hlB heB, hE13, hK13 _ _ (s1213 _ _ hq) (ne_of (s1213 _ _ hq) heB (by intro z; cases z)) nql, pairs_tk tkE (pairs_same s1213 hW), nqs, nql, tkE _ _ hp5, hcmB.tk tkE, hR13, hG13, by rw [List.length_append]; show cvs.length + 1 ≤ i + 1; omega⟩
      · refine iteND (ne_str hw) ?_
        refine ⟨_, rfl, by show 2 ≤ sizeLine; decide, fun t1 ht1 => ?_⟩
        have s11 := same_new (o := HO.tup [.str "not", .str (why L cmd)]) ht1
        have sB := s10.trans s11
        have hnot : NotV (upd H10 t1 (.tup [.str "not", .str (why L cmd)])) (.ref t1) (why L cmd) := ⟨t1, rfl, upd_same⟩
        generalize upd H10 t1 (.tup [.str "not", .str (why L cmd)]) = H12 at s11 sB hnot
        have hE12 := hE9.same sB
        obtain ⟨dxB, tcB, preB, svB, heB, hlB, _⟩ := id hE12
        have hsaB := sB _ _ hsa9
        have hLB := pairs_same sB hL9
        have hjaB := sB _ _ hja9
        have hcmB := hcm9.tk (Same.tk sB)
        have hG2 : Good L (8 + i + 1) := hG.mono (by omega)
        refine read _ H12 a s e l sa ja _ nv cv _ ns L S svs cvs cvs (8 + i + 1) hnd hn8 (hF9.same sB) hE12 hsaB hLB nal hL8 hjaB (by omega) hcmB (fun Q2 kQ => ?_) (fun H13 S13 hE13 hR13 hG13 hK13 => ?_)
        · refine ⟨e, l, nv, ns, S, cvs, cv, cmd, rfl, hE12, (hF9.same sB).nam, hok, hcv.same sB, hokc, hS8, hS40, by omega, fun hw' v H13 hv s13 => ?_, fun hw' => absurd (hwe.trans hw') hw⟩
          refine kQ v H13 S (hE12.same s13) hR hG2 (EqV.up (EqV.up (eq_not hv ?_))) (Same.keep2 s13)
          rw [← hwe]
          exact hnot.same s13
        · have tkE := Keep2.tk hK13 hlB heB
          exact ⟨sa, ja, _, _, _, L, S13, cvs, svs, rfl, (hS9.same sB).keep2 hK13 heB nls.symm nlc, (hF9.same sB).keep2 hK13 hlB heB, hE13, hK13 _ _ hsaB (ne_of hsaB heB (by intro z; cases z)) nal, pairs_tk tkE hLB, nas, nal, tkE _ _ hjaB, hcmB.tk tkE, hR13, hG13, by omega⟩
    · rintro σ H8 ⟨sa, ja, v6, v7, v8, L, S, cvs, svs, rfl, hS, hF, hE, hsa, hL, nas, nal, hja, hcm, hR, hG, hcl⟩
      have hL8 := hG.len
      obtain ⟨dx8, tc, pre, sv, he8, hl8, hS8, htc8, hpl⟩ := id hE
      have hSl : S.length ≤ 100 := by rw [← rel_len hR]; omega
      have hTl : (told ns S).length ≤ 1000 := by unfold told; rw [List.length_map]; omega
      refine ⟨_, rfl, e, dx8, _, rfl, he8, ef_no (by decide +kernel) (by decide +kernel) (by decide +kernel), e, dx8, l, tc, nv, rfl, he8, _, rfl, nv, nv, rfl, eq_names hF (by omega), fun H9 s9 => ⟨true, rfl, ?_⟩⟩
      refine ⟨_, rfl, e, dx8, _, rfl, s9 _ _ he8, ef_no (by decide +kernel) (by decide +kernel) (by decide +kernel), e, l, nv, ns, S, cvs, rfl, hE.same s9, (hF.same s9).nam, by omega, hSl, fun v5 H10 hv5 s10 => ?_⟩
      have s910 := s9.trans s10
      refine ⟨_, rfl, _, rfl, nv, ns, sa, svs, L, rfl, (hF.same s910).nam, by omega, s910 _ _ hsa, pairs_same s910 hL, by omega, fun v9 H11 hv9 s11 => ?_⟩
      exact ⟨v5, v9, rfl, eq_sets (hv5.same s11) (by rw [← rel_told hR]; exact hv9) hTl (fun p hp => Nat.le_trans (told_all p hp) (by omega)), fun H12 s12 => k _⟩
end
end Kt
namespace Kt
open PySem PySem.Spec PyProof.Rows L2
/-- an error of a class is what «except» of that class names -/
theorem exm_self {K : PySem.W.Frag} {S : Addr} (h1 : PySem.W.subIn K (.ref S) (.type "BaseException") = some true) (h2 : PySem.W.isClsIn K S = true) (h3 : PySem.W.typeIn K (.ref S) = some (.type "type")) (h4 : PySem.W.subIn K (.ref S) (.ref S) = some true) :
    PySem.W.exmOne K (.ref S) (.ref S) = some true := by
  have e1 : (PySem.W.subIn K (.ref S) (.type "BaseException") == some true) = true := by rw [h1] <;> rfl
  have e2 : ((PySem.W.clsIn K S).isSome && PySem.W.typeIn K (.ref S) == some (.type "type")) = true := by
    have h2' : (PySem.W.clsIn K S).isSome = true := h2
    rw [h2', h3] <;> rfl
  show (if (PySem.W.subIn K (.ref S) (.type "BaseException") == some true) = true then (if ((PySem.W.clsIn K S).isSome && PySem.W.typeIn K (.ref S) == some (.type "type")) = true then PySem.W.subIn K (.ref S) (.ref S) else none) else none) = some true
  rw [if_pos e1, if_pos e2]
  exact h4
theorem all_mk {l : PySem.W.OpenLaw} {w : World} {K : PySem.W.Frag} {h : Heap} {mg : Str → Option Value} {fa : Addr} (X : K.In h) (G : h.Ns mainGlobals mg) (hfa : mg "law" = some (.ref fa))
    {f1 f2 f3 f4 f5 f6 f7 f8 f9 f10 f11 f12 f13 f14 f15 f16 f17 f18 f19 f20 f21 f22 f23 f24 f25 f26 f27 C D TD ND : Addr} {od1 an1 od2 an2 od3 an3 od4 an4 od5 an5 od6 an6 od7 an7 od8 an8 od9 an9 od10 an10 od11 an11 od12 an12 od13 an13 od14 an14 od15 an15 od16 an16 od17 an17 od18 an18 od19 an19 od20 an20 od21 an21 od22 an22 od23 an23 od24 an24 od25 an25 od26 an26 od27 an27 ddD : Option Addr} {sl1 sl2 sl3 sl4 sl5 sl6 sl7 sl8 sl9 sl10 sl11 sl12 sl13 sl14 sl15 sl16 sl17 sl18 sl19 sl20 sl21 sl22 sl23 sl24 sl25 sl26 sl27 : Array (Option Value)} {oc1 kV1 dc1 pm1 cd1 ct1 oc2 kV2 dc2 pm2 cd2 ct2 oc3 kV3 dc3 pm3 cd3 ct3 oc4 kV4 dc4 pm4 cd4 ct4 oc5 kV5 dc5 pm5 cd5 ct5 oc6 kV6 dc6 pm6 cd6 ct6 oc7 kV7 dc7 pm7 cd7 ct7 oc8 kV8 dc8 pm8 cd8 ct8 oc9 kV9 dc9 pm9 cd9 ct9 oc10 kV10 dc10 pm10 cd10 ct10 oc11 kV11 dc11 pm11 cd11 ct11 oc12 kV12 dc12 pm12 cd12 ct12 oc13 kV13 dc13 pm13 cd13 ct13 oc14 kV14 dc14 pm14 cd14 ct14 oc15 kV15 dc15 pm15 cd15 ct15 oc16 kV16 dc16 pm16 cd16 ct16 oc17 kV17 dc17 pm17 cd17 ct17 oc18 kV18 dc18 pm18 cd18 ct18 oc19 kV19 dc19 pm19 cd19 ct19 oc20 kV20 dc20 pm20 cd20 ct20 oc21 kV21 dc21 pm21 cd21 ct21 oc22 kV22 dc22 pm22 cd22 ct22 oc23 kV23 dc23 pm23 cd23 ct23 oc24 kV24 dc24 pm24 cd24 ct24 oc25 kV25 dc25 pm25 cd25 ct25 oc26 kV26 dc26 pm26 cd26 ct26 oc27 kV27 dc27 pm27 cd27 ct27 : Value} {nmD qD : Str} {bsD subD : List Value} {snD : List Str} {abD : Bool} {colD : Option Bool} {m0 m1 m2 m3 m5 : Option Value} {t1 t2 t3 t4 t5 : Tok}
    (a1 : PySem.W.nsIn K mainGlobals "is_name" = some (some (.ref f1)))
    (l1 : K.lookup f1 = some ⟨oc1, od1, .func (PySem.W.fnOf "is_name" "is_name" (defArgs sIsName) (defBody sIsName) (defScope sIsName) .none kV1 dc1 pm1 an1 cd1 ct1), sl1⟩)
    (c1 : PySem.W.codeIn K cd1 "is_name" = true)
    (k1 : PySem.W.keepIn K (.ref f1) = true)
    (a2 : PySem.W.nsIn K mainGlobals "are_names" = some (some (.ref f2)))
    (l2 : K.lookup f2 = some ⟨oc2, od2, .func (PySem.W.fnOf "are_names" "are_names" (defArgs sAreNames) (defBody sAreNames) (defScope sAreNames) .none kV2 dc2 pm2 an2 cd2 ct2), sl2⟩)
    (c2 : PySem.W.codeIn K cd2 "are_names" = true)
    (k2 : PySem.W.keepIn K (.ref f2) = true)
    (a3 : PySem.W.nsIn K mainGlobals "is_name_of" = some (some (.ref f3)))
    (l3 : K.lookup f3 = some ⟨oc3, od3, .func (PySem.W.fnOf "is_name_of" "is_name_of" (defArgs sIsNameOf) (defBody sIsNameOf) (defScope sIsNameOf) .none kV3 dc3 pm3 an3 cd3 ct3), sl3⟩)
    (c3 : PySem.W.codeIn K cd3 "is_name_of" = true)
    (k3 : PySem.W.keepIn K (.ref f3) = true)
    (a4 : PySem.W.nsIn K mainGlobals "is_command" = some (some (.ref f4)))
    (l4 : K.lookup f4 = some ⟨oc4, od4, .func (PySem.W.fnOf "is_command" "is_command" (defArgs sIsCommand) (defBody sIsCommand) (defScope sIsCommand) .none kV4 dc4 pm4 an4 cd4 ct4), sl4⟩)
    (c4 : PySem.W.codeIn K cd4 "is_command" = true)
    (k4 : PySem.W.keepIn K (.ref f4) = true)
    (a5 : PySem.W.nsIn K mainGlobals "with_command" = some (some (.ref f5)))
    (l5 : K.lookup f5 = some ⟨oc5, od5, .func (PySem.W.fnOf "with_command" "with_command" (defArgs sWith) (defBody sWith) (defScope sWith) .none kV5 dc5 pm5 an5 cd5 ct5), sl5⟩)
    (c5 : PySem.W.codeIn K cd5 "with_command" = true)
    (k5 : PySem.W.keepIn K (.ref f5) = true)
    (a6 : PySem.W.nsIn K mainGlobals "changed" = some (some (.ref f6)))
    (l6 : K.lookup f6 = some ⟨oc6, od6, .func (PySem.W.fnOf "changed" "changed" (defArgs sChanged) (defBody sChanged) (defScope sChanged) .none kV6 dc6 pm6 an6 cd6 ct6), sl6⟩)
    (c6 : PySem.W.codeIn K cd6 "changed" = true)
    (k6 : PySem.W.keepIn K (.ref f6) = true)
    (a7 : PySem.W.nsIn K mainGlobals "_law_stream" = some (some (.ref f7)))
    (l7 : K.lookup f7 = some ⟨oc7, od7, .func (PySem.W.fnOf "_law_stream" "_law_stream" (defArgs sStream) (defBody sStream) (defScope sStream) .none kV7 dc7 pm7 an7 cd7 ct7), sl7⟩)
    (c7 : PySem.W.codeIn K cd7 "_law_stream" = true)
    (k7 : PySem.W.keepIn K (.ref f7) = true)
    (a8 : PySem.W.nsIn K mainGlobals "_law_next" = some (some (.ref f8)))
    (l8 : K.lookup f8 = some ⟨oc8, od8, .func (PySem.W.fnOf "_law_next" "_law_next" (defArgs sNext) (defBody sNext) (defScope sNext) .none kV8 dc8 pm8 an8 cd8 ct8), sl8⟩)
    (c8 : PySem.W.codeIn K cd8 "_law_next" = true)
    (k8 : PySem.W.keepIn K (.ref f8) = true)
    (a9 : PySem.W.nsIn K mainGlobals "_law_is_integer" = some (some (.ref f9)))
    (l9 : K.lookup f9 = some ⟨oc9, od9, .func (PySem.W.fnOf "_law_is_integer" "_law_is_integer" (defArgs sIsInt) (defBody sIsInt) (defScope sIsInt) .none kV9 dc9 pm9 an9 cd9 ct9), sl9⟩)
    (c9 : PySem.W.codeIn K cd9 "_law_is_integer" = true)
    (k9 : PySem.W.keepIn K (.ref f9) = true)
    (a10 : PySem.W.nsIn K mainGlobals "_law_equal" = some (some (.ref f10)))
    (l10 : K.lookup f10 = some ⟨oc10, od10, .func (PySem.W.fnOf "_law_equal" "_law_equal" (defArgs sEqual) (defBody sEqual) (defScope sEqual) .none kV10 dc10 pm10 an10 cd10 ct10), sl10⟩)
    (c10 : PySem.W.codeIn K cd10 "_law_equal" = true)
    (k10 : PySem.W.keepIn K (.ref f10) = true)
    (a11 : PySem.W.nsIn K mainGlobals "_law_shuffled" = some (some (.ref f11)))
    (l11 : K.lookup f11 = some ⟨oc11, od11, .func (PySem.W.fnOf "_law_shuffled" "_law_shuffled" (defArgs sShuf) (defBody sShuf) (defScope sShuf) .none kV11 dc11 pm11 an11 cd11 ct11), sl11⟩)
    (c11 : PySem.W.codeIn K cd11 "_law_shuffled" = true)
    (k11 : PySem.W.keepIn K (.ref f11) = true)
    (a12 : PySem.W.nsIn K mainGlobals "_law_words" = some (some (.ref f12)))
    (l12 : K.lookup f12 = some ⟨oc12, od12, .func (PySem.W.fnOf "_law_words" "_law_words" (defArgs sWords) (defBody sWords) (defScope sWords) .none kV12 dc12 pm12 an12 cd12 ct12), sl12⟩)
    (c12 : PySem.W.codeIn K cd12 "_law_words" = true)
    (k12 : PySem.W.keepIn K (.ref f12) = true)
    (a13 : PySem.W.nsIn K mainGlobals "_law_command" = some (some (.ref f13)))
    (l13 : K.lookup f13 = some ⟨oc13, od13, .func (PySem.W.fnOf "_law_command" "_law_command" (defArgs sCommand) (defBody sCommand) (defScope sCommand) .none kV13 dc13 pm13 an13 cd13 ct13), sl13⟩)
    (c13 : PySem.W.codeIn K cd13 "_law_command" = true)
    (k13 : PySem.W.keepIn K (.ref f13) = true)
    (a14 : PySem.W.nsIn K mainGlobals "_law_why_not" = some (some (.ref f14)))
    (l14 : K.lookup f14 = some ⟨oc14, od14, .func (PySem.W.fnOf "_law_why_not" "_law_why_not" (defArgs sWhy) (defBody sWhy) (defScope sWhy) .none kV14 dc14 pm14 an14 cd14 ct14), sl14⟩)
    (c14 : PySem.W.codeIn K cd14 "_law_why_not" = true)
    (k14 : PySem.W.keepIn K (.ref f14) = true)
    (a15 : PySem.W.nsIn K mainGlobals "_law_behind" = some (some (.ref f15)))
    (l15 : K.lookup f15 = some ⟨oc15, od15, .func (PySem.W.fnOf "_law_behind" "_law_behind" (defArgs sBehind) (defBody sBehind) (defScope sBehind) .none kV15 dc15 pm15 an15 cd15 ct15), sl15⟩)
    (c15 : PySem.W.codeIn K cd15 "_law_behind" = true)
    (k15 : PySem.W.keepIn K (.ref f15) = true)
    (a16 : PySem.W.nsIn K mainGlobals "_law_told_sets" = some (some (.ref f16)))
    (l16 : K.lookup f16 = some ⟨oc16, od16, .func (PySem.W.fnOf "_law_told_sets" "_law_told_sets" (defArgs sTold) (defBody sTold) (defScope sTold) .none kV16 dc16 pm16 an16 cd16 ct16), sl16⟩)
    (c16 : PySem.W.codeIn K cd16 "_law_told_sets" = true)
    (k16 : PySem.W.keepIn K (.ref f16) = true)
    (a17 : PySem.W.nsIn K mainGlobals "_law_system_of" = some (some (.ref f17)))
    (l17 : K.lookup f17 = some ⟨oc17, od17, .func (PySem.W.fnOf "_law_system_of" "_law_system_of" (defArgs sSysOf) (defBody sSysOf) (defScope sSysOf) .none kV17 dc17 pm17 an17 cd17 ct17), sl17⟩)
    (c17 : PySem.W.codeIn K cd17 "_law_system_of" = true)
    (k17 : PySem.W.keepIn K (.ref f17) = true)
    (a18 : PySem.W.nsIn K mainGlobals "_law_told" = some (some (.ref f18)))
    (l18 : K.lookup f18 = some ⟨oc18, od18, .func (PySem.W.fnOf "_law_told" "_law_told" (defArgs sToldAct) (defBody sToldAct) (defScope sToldAct) .none kV18 dc18 pm18 an18 cd18 ct18), sl18⟩)
    (c18 : PySem.W.codeIn K cd18 "_law_told" = true)
    (k18 : PySem.W.keepIn K (.ref f18) = true)
    (a19 : PySem.W.nsIn K mainGlobals "law" = some (some (.ref f19)))
    (l19 : K.lookup f19 = some ⟨oc19, od19, .func (PySem.W.fnOf "law" "law" (defArgs sLaw) (defBody sLaw) (defScope sLaw) .none kV19 dc19 pm19 an19 cd19 ct19), sl19⟩)
    (c19 : PySem.W.codeIn K cd19 "law" = true)
    (k19 : PySem.W.keepIn K (.ref f19) = true)
    (a20 : PySem.W.findIn K (.ref C) "__init__" = some (some (.ref f20)))
    (i20 : PySem.W.isFn K (.ref f20) = true)
    (l20 : K.lookup f20 = some ⟨oc20, od20, .func (PySem.W.fnOf "__init__" "Editor.__init__" (defArgs sEdInit) (defBody sEdInit) (defScope sEdInit) .none kV20 dc20 pm20 an20 cd20 ct20), sl20⟩)
    (c20 : PySem.W.codeIn K cd20 "Editor.__init__" = true)
    (k20 : PySem.W.keepIn K (.ref f20) = true)
    (a21 : PySem.W.findIn K (.ref C) "act" = some (some (.ref f21)))
    (i21 : PySem.W.isFn K (.ref f21) = true)
    (l21 : K.lookup f21 = some ⟨oc21, od21, .func (PySem.W.fnOf "act" "Editor.act" (defArgs sAct) (defBody sAct) (defScope sAct) .none kV21 dc21 pm21 an21 cd21 ct21), sl21⟩)
    (c21 : PySem.W.codeIn K cd21 "Editor.act" = true)
    (k21 : PySem.W.keepIn K (.ref f21) = true)
    (a22 : PySem.W.findIn K (.ref C) "names" = some (some (.ref f22)))
    (i22 : PySem.W.isFn K (.ref f22) = true)
    (l22 : K.lookup f22 = some ⟨oc22, od22, .func (PySem.W.fnOf "names" "Editor.names" (defArgs sNames) (defBody sNames) (defScope sNames) .none kV22 dc22 pm22 an22 cd22 ct22), sl22⟩)
    (c22 : PySem.W.codeIn K cd22 "Editor.names" = true)
    (k22 : PySem.W.keepIn K (.ref f22) = true)
    (a23 : PySem.W.findIn K (.ref C) "sets" = some (some (.ref f23)))
    (i23 : PySem.W.isFn K (.ref f23) = true)
    (l23 : K.lookup f23 = some ⟨oc23, od23, .func (PySem.W.fnOf "sets" "Editor.sets" (defArgs sSets) (defBody sSets) (defScope sSets) .none kV23 dc23 pm23 an23 cd23 ct23), sl23⟩)
    (c23 : PySem.W.codeIn K cd23 "Editor.sets" = true)
    (k23 : PySem.W.keepIn K (.ref f23) = true)
    (a24 : PySem.W.findIn K (.ref C) "in_order" = some (some (.ref f24)))
    (i24 : PySem.W.isFn K (.ref f24) = true)
    (l24 : K.lookup f24 = some ⟨oc24, od24, .func (PySem.W.fnOf "in_order" "Editor.in_order" (defArgs sInOrder) (defBody sInOrder) (defScope sInOrder) .none kV24 dc24 pm24 an24 cd24 ct24), sl24⟩)
    (c24 : PySem.W.codeIn K cd24 "Editor.in_order" = true)
    (k24 : PySem.W.keepIn K (.ref f24) = true)
    (a25 : PySem.W.findIn K (.ref C) "system" = some (some (.ref f25)))
    (i25 : PySem.W.isFn K (.ref f25) = true)
    (l25 : K.lookup f25 = some ⟨oc25, od25, .func (PySem.W.fnOf "system" "Editor.system" (defArgs sSystem) (defBody sSystem) (defScope sSystem) .none kV25 dc25 pm25 an25 cd25 ct25), sl25⟩)
    (c25 : PySem.W.codeIn K cd25 "Editor.system" = true)
    (k25 : PySem.W.keepIn K (.ref f25) = true)
    (a26 : PySem.W.findIn K (.ref C) "journal" = some (some (.ref f26)))
    (i26 : PySem.W.isFn K (.ref f26) = true)
    (l26 : K.lookup f26 = some ⟨oc26, od26, .func (PySem.W.fnOf "journal" "Editor.journal" (defArgs sJournal) (defBody sJournal) (defScope sJournal) .none kV26 dc26 pm26 an26 cd26 ct26), sl26⟩)
    (c26 : PySem.W.codeIn K cd26 "Editor.journal" = true)
    (k26 : PySem.W.keepIn K (.ref f26) = true)
    (a27 : PySem.W.findIn K (.ref D) "__init__" = some (some (.ref f27)))
    (i27 : PySem.W.typeIn K (.ref f27) = some (.type "function"))
    (l27 : K.lookup f27 = some ⟨oc27, od27, .func (PySem.W.fnOf "__init__" "NotPossible.__init__" (defArgs sNPinit) (defBody sNPinit) (defScope sNPinit) .none kV27 dc27 pm27 an27 cd27 ct27), sl27⟩)
    (c27 : PySem.W.codeIn K cd27 "NotPossible.__init__" = true)
    (k27 : PySem.W.keepIn K (.ref f27) = true)
    (aC : PySem.W.nsIn K mainGlobals "Editor" = some (some (.ref C)))
    (pgC : PySem.W.plainGet K C Str.empty = true)
    (hdC : PySem.W.hasDictIn K C = true)
    (poC : PySem.W.plainOver K C = true)
    (saC : PySem.W.findIn K (.ref C) "__setattr__" = some (some (.builtin "object.__setattr__")))
    (mkC : PySem.W.makesIn K C = true)
    (kcC : PySem.W.keepIn K (.ref C) = true)
    (nM : PySem.W.findIn K (.ref C) "members" = some none)
    (nS : PySem.W.findIn K (.ref C) "states" = some none)
    (nC : PySem.W.findIn K (.ref C) "commands" = some none)
    (aD : PySem.W.nsIn K mainGlobals "NotPossible" = some (some (.ref D)))
    (xD : K.lookup D = some (excClassObj nmD qD D ND bsD [.ref TD, .type "ValueError", .type "Exception", .type "BaseException", .type "object"] true snD subD abD colD ddD m0 m1 m2 m3 m5 "ValueError.__new__"))
    (saD : PySem.W.findIn K (.ref D) "__setattr__" = some (some (.builtin "object.__setattr__")))
    (gaD : PySem.W.findIn K (.ref D) "__getattribute__" = some (some (.builtin "BaseException.__getattribute__")))
    (ggD : PySem.W.findIn K (.ref D) "__getattr__" = some none)
    (nW : PySem.W.findIn K (.ref D) "why" = some none)
    (kD : PySem.W.keepIn K (.ref D) = true)
    (eD : PySem.W.subIn K (.ref D) (.type "BaseException") = some true)
    (tD : PySem.W.typeIn K (.ref D) = some (.type "type"))
    (hD : PySem.W.hasDictIn K D = true)
    (iD : PySem.W.isClsIn K D = true)
    (sD : PySem.W.subIn K (.ref D) (.ref D) = some true)
    (z_isinstance : PySem.W.nsIn K mainGlobals "isinstance" = some none)
    (z_len : PySem.W.nsIn K mainGlobals "len" = some none)
    (z_all : PySem.W.nsIn K mainGlobals "all" = some none)
    (z_tuple : PySem.W.nsIn K mainGlobals "tuple" = some none)
    (z_sorted : PySem.W.nsIn K mainGlobals "sorted" = some none)
    (z_enumerate : PySem.W.nsIn K mainGlobals "enumerate" = some none)
    (z_list : PySem.W.nsIn K mainGlobals "list" = some none)
    (z_range : PySem.W.nsIn K mainGlobals "range" = some none)
    (z_abs : PySem.W.nsIn K mainGlobals "abs" = some none)
    (z_int : PySem.W.nsIn K mainGlobals "int" = some none)
    (z_str : PySem.W.nsIn K mainGlobals "str" = some none)
    (z_bool : PySem.W.nsIn K mainGlobals "bool" = some none)
    (v1 : PySem.W.nsIn K mainGlobals "ALPHABET" = some (some (.str "abcdefghijklmnopqrstuvwxyz" t1)))
    (v2 : PySem.W.nsIn K mainGlobals "LONGEST" = some (some (.int 8 t2)))
    (v3 : PySem.W.nsIn K mainGlobals "MOST_SETS_editor" = some (some (.int 8 t3)))
    (v4 : PySem.W.nsIn K mainGlobals "MOST_ELEMENTS_editor" = some (some (.int 8 t4)))
    (v5 : PySem.W.nsIn K mainGlobals "MOST_COMMANDS" = some (some (.int 20 t5))) :
    ∃ fd : FuncData, (∀ (s : Shared) (v : Value), BindsTo s fd ⟨[v], []⟩ [("_law_script", v)]) ∧ ∀ base : Heap, K.In base → base.Ns mainGlobals mg → FnOk l.prog w K mg base CX0 7 fa fd ["_law_script"] (spLaw K) := by
  have e := hfa.symm.trans (PySem.W.mg_of X G a19)
  cases e
  have F1 := fun_mk (st := sIsName) l1 c1 k1
  have b1 := F1.binds (ps := ["value"]) fun _ _ _ _ _ _ us hl => match us, hl with | [_], _ => rfl
  have g1 := PySem.W.mg_of X G a1
  have F2 := fun_mk (st := sAreNames) l2 c2 k2
  have b2 := F2.binds (ps := ["value"]) fun _ _ _ _ _ _ us hl => match us, hl with | [_], _ => rfl
  have g2 := PySem.W.mg_of X G a2
  have F3 := fun_mk (st := sIsNameOf) l3 c3 k3
  have b3 := F3.binds (ps := ["value", "names"]) fun _ _ _ _ _ _ us hl => match us, hl with | [_, _], _ => rfl
  have g3 := PySem.W.mg_of X G a3
  have F4 := fun_mk (st := sIsCommand) l4 c4 k4
  have b4 := F4.binds (ps := ["value", "names"]) fun _ _ _ _ _ _ us hl => match us, hl with | [_, _], _ => rfl
  have g4 := PySem.W.mg_of X G a4
  have F5 := fun_mk (st := sWith) l5 c5 k5
  have b5 := F5.binds (ps := ["sets", "command"]) fun _ _ _ _ _ _ us hl => match us, hl with | [_, _], _ => rfl
  have g5 := PySem.W.mg_of X G a5
  have F6 := fun_mk (st := sChanged) l6 c6 k6
  have b6 := F6.binds (ps := ["word", "members", "element"]) fun _ _ _ _ _ _ us hl => match us, hl with | [_, _, _], _ => rfl
  have g6 := PySem.W.mg_of X G a6
  have F7 := fun_mk (st := sStream) l7 c7 k7
  have b7 := F7.binds (ps := ["_law_script"]) fun _ _ _ _ _ _ us hl => match us, hl with | [_], _ => rfl
  have g7 := PySem.W.mg_of X G a7
  have F8 := fun_mk (st := sNext) l8 c8 k8
  have b8 := F8.binds (ps := ["_law_stream_here", "_law_many"]) fun _ _ _ _ _ _ us hl => match us, hl with | [_, _], _ => rfl
  have g8 := PySem.W.mg_of X G a8
  have F9 := fun_mk (st := sIsInt) l9 c9 k9
  have b9 := F9.binds (ps := ["_law_actual"]) fun _ _ _ _ _ _ us hl => match us, hl with | [_], _ => rfl
  have g9 := PySem.W.mg_of X G a9
  have F10 := fun_mk (st := sEqual) l10 c10 k10
  have b10 := F10.binds (ps := ["_law_actual", "_law_due"]) fun _ _ _ _ _ _ us hl => match us, hl with | [_, _], _ => rfl
  have g10 := PySem.W.mg_of X G a10
  have F11 := fun_mk (st := sShuf) l11 c11 k11
  have b11 := F11.binds (ps := ["_law_stream_here", "_law_many"]) fun _ _ _ _ _ _ us hl => match us, hl with | [_, _], _ => rfl
  have g11 := PySem.W.mg_of X G a11
  have F12 := fun_mk (st := sWords) l12 c12 k12
  have b12 := F12.binds (ps := ["_law_stream_here", "_law_size"]) fun _ _ _ _ _ _ us hl => match us, hl with | [_, _], _ => rfl
  have g12 := PySem.W.mg_of X G a12
  have F13 := fun_mk (st := sCommand) l13 c13 k13
  have b13 := F13.binds (ps := ["_law_stream_here", "_law_names", "_law_sets"]) fun _ _ _ _ _ _ us hl => match us, hl with | [_, _, _], _ => rfl
  have g13 := PySem.W.mg_of X G a13
  have F14 := fun_mk (st := sWhy) l14 c14 k14
  have b14 := F14.binds (ps := ["_law_sets", "_law_command_here"]) fun _ _ _ _ _ _ us hl => match us, hl with | [_, _], _ => rfl
  have g14 := PySem.W.mg_of X G a14
  have F15 := fun_mk (st := sBehind) l15 c15 k15
  have b15 := F15.binds (ps := ["_law_names", "_law_sets", "_law_command_here"]) fun _ _ _ _ _ _ us hl => match us, hl with | [_, _, _], _ => rfl
  have g15 := PySem.W.mg_of X G a15
  have F16 := fun_mk (st := sTold) l16 c16 k16
  have b16 := F16.binds (ps := ["_law_names", "_law_sets"]) fun _ _ _ _ _ _ us hl => match us, hl with | [_, _], _ => rfl
  have g16 := PySem.W.mg_of X G a16
  have F17 := fun_mk (st := sSysOf) l17 c17 k17
  have b17 := F17.binds (ps := ["_law_names", "_law_sets"]) fun _ _ _ _ _ _ us hl => match us, hl with | [_, _], _ => rfl
  have g17 := PySem.W.mg_of X G a17
  have F18 := fun_mk (st := sToldAct) l18 c18 k18
  have b18 := F18.binds (ps := ["_law_editor", "_law_command_here"]) fun _ _ _ _ _ _ us hl => match us, hl with | [_, _], _ => rfl
  have g18 := PySem.W.mg_of X G a18
  have F19 := fun_mk (st := sLaw) l19 c19 k19
  have b19 := F19.binds (ps := ["_law_script"]) fun _ _ _ _ _ _ us hl => match us, hl with | [_], _ => rfl
  have g19 := PySem.W.mg_of X G a19
  have F20 := fun_mk (st := sEdInit) l20 c20 k20
  have b20 := F20.binds (ps := ["self", "names"]) fun _ _ _ _ _ _ us hl => match us, hl with | [_, _], _ => rfl
  have F21 := fun_mk (st := sAct) l21 c21 k21
  have b21 := F21.binds (ps := ["self", "command"]) fun _ _ _ _ _ _ us hl => match us, hl with | [_, _], _ => rfl
  have F22 := fun_mk (st := sNames) l22 c22 k22
  have b22 := F22.binds (ps := ["self"]) fun _ _ _ _ _ _ us hl => match us, hl with | [_], _ => rfl
  have F23 := fun_mk (st := sSets) l23 c23 k23
  have b23 := F23.binds (ps := ["self"]) fun _ _ _ _ _ _ us hl => match us, hl with | [_], _ => rfl
  have F24 := fun_mk (st := sInOrder) l24 c24 k24
  have b24 := F24.binds (ps := ["self", "chosen"]) fun _ _ _ _ _ _ us hl => match us, hl with | [_, _], _ => rfl
  have F25 := fun_mk (st := sSystem) l25 c25 k25
  have b25 := F25.binds (ps := ["self"]) fun _ _ _ _ _ _ us hl => match us, hl with | [_], _ => rfl
  have F26 := fun_mk (st := sJournal) l26 c26 k26
  have b26 := F26.binds (ps := ["self"]) fun _ _ _ _ _ _ us hl => match us, hl with | [_], _ => rfl
  have F27 := fun_mk (st := sNPinit) l27 c27 k27
  have b27 := F27.binds (ps := ["self", "why"]) fun _ _ _ _ _ _ us hl => match us, hl with | [_, _], _ => rfl
  have B : Blt mg := ⟨PySem.W.mg_none_of X G z_isinstance, PySem.W.mg_none_of X G z_len, PySem.W.mg_none_of X G z_all, PySem.W.mg_none_of X G z_tuple, PySem.W.mg_none_of X G z_sorted, PySem.W.mg_none_of X G z_enumerate, PySem.W.mg_none_of X G z_list, PySem.W.mg_none_of X G z_range, PySem.W.mg_none_of X G z_abs, PySem.W.mg_none_of X G z_int, PySem.W.mg_none_of X G z_str, PySem.W.mg_none_of X G z_bool, ⟨_, PySem.W.mg_of X G v1⟩, ⟨_, PySem.W.mg_of X G v2⟩, ⟨_, PySem.W.mg_of X G v3⟩, ⟨_, PySem.W.mg_of X G v4⟩, ⟨_, PySem.W.mg_of X G v5⟩⟩
  have T : EdC K mg C := ⟨⟨pgC, hdC, poC, saC⟩, nM, nS, nC, PySem.W.mg_of X G aC⟩
  have hbm : PySem.HandSPX.refsVE [.ref TD, .type "ValueError", .type "Exception", .type "BaseException", .type "object"] = true := rfl
  have ox : OexC K D := ⟨⟨nmD, qD, ND, bsD, _, snD, subD, abD, colD, ddD, m0, m1, m2, m3, m5, xD, hbm⟩, saD, eD, tD, kD⟩
  refine ⟨PySem.W.fnOf "law" "law" (defArgs sLaw) (defBody sLaw) (defScope sLaw) .none kV19 dc19 pm19 an19 cd19 ct19, fun s v => .of_eq rfl, fun base _ _ => ?_⟩
  have NPt : NP l.prog w K mg base D f27 := ⟨ox, PySem.W.mg_of X G aD, a27, i27, nW, ⟨gaD, ggD, eD, hD⟩, exm_self eD iD tD sD⟩
  have H1 : Has l.prog w K mg base _ _ _ _ _ := ⟨f1, _, ok_isName F1 B, g1, k1, b1⟩
  have H2 : Has l.prog w K mg base _ _ _ _ _ := ⟨f2, _, ok_areNames F2 B H1, g2, k2, b2⟩
  have H3 : Has l.prog w K mg base _ _ _ _ _ := ⟨f3, _, ok_isNameOf F3 B, g3, k3, b3⟩
  have H4 : Has l.prog w K mg base _ _ _ _ _ := ⟨f4, _, ok_isCommand F4 B H1 H2 H3, g4, k4, b4⟩
  have GN := ok_NPinit (P := l.prog) (w := w) (base := base) F27 NPt
  have H6 : Has l.prog w K mg base _ _ _ _ _ := ⟨f6, _, ok_changed F6 B NPt GN b27, g6, k6, b6⟩
  have H5 : Has l.prog w K mg base _ _ _ _ _ := ⟨f5, _, ok_with F5 B NPt GN b27 H6, g5, k5, b5⟩
  have GE := ok_edInit (P := l.prog) (w := w) (base := base) F20 B T H2
  have GA := ok_act (P := l.prog) (w := w) (base := base) (D := D) F21 B T H4 H5
  have GI := ok_inOrder (P := l.prog) (w := w) (base := base) F24 B T
  have GS := ok_sets (P := l.prog) (w := w) (base := base) F23 B T GI b24 ⟨a24, i24, k24⟩
  have GY := ok_system (P := l.prog) (w := w) (base := base) F25 B T GS b23 ⟨a23, i23, k23⟩
  have GJ := ok_journal (P := l.prog) (w := w) (base := base) F26 T
  have GNm := ok_names (P := l.prog) (w := w) (base := base) F22 T
  have H7 : Has l.prog w K mg base _ _ _ _ _ := ⟨f7, _, ok_stream F7 B, g7, k7, b7⟩
  have H8 : Has l.prog w K mg base _ _ _ _ _ := ⟨f8, _, ok_next F8 B, g8, k8, b8⟩
  have H9 : Has l.prog w K mg base _ _ _ _ _ := ⟨f9, _, ok_isInt F9 B, g9, k9, b9⟩
  have H10 : Has l.prog w K mg base _ _ _ _ _ := ⟨f10, _, ok_equal F10 B H9 g10 k10 b10 3, g10, k10, b10⟩
  have H11 : Has l.prog w K mg base _ _ _ _ _ := ⟨f11, _, ok_shuf F11 B H8, g11, k11, b11⟩
  have H12 : Has l.prog w K mg base _ _ _ _ _ := ⟨f12, _, ok_words F12 B H11, g12, k12, b12⟩
  have H13 : Has l.prog w K mg base _ _ _ _ _ := ⟨f13, _, ok_command F13 B H8 H11, g13, k13, b13⟩
  have H14 : Has l.prog w K mg base _ _ _ _ _ := ⟨f14, _, ok_why F14 B, g14, k14, b14⟩
  have H15 : Has l.prog w K mg base _ _ _ _ _ := ⟨f15, _, ok_behind F15 B, g15, k15, b15⟩
  have H16 : Has l.prog w K mg base _ _ _ _ _ := ⟨f16, _, ok_told F16 B, g16, k16, b16⟩
  have H17 : Has l.prog w K mg base _ _ _ _ _ := ⟨f17, _, ok_sysOf F17 B, g17, k17, b17⟩
  have H18 : Has l.prog w K mg base _ _ _ _ _ := ⟨f18, _, ok_toldAct F18 T NPt GA b21 ⟨a21, i21, k21⟩, g18, k18, b18⟩
  exact ok_law F19 B T ⟨mkC, a20, i20, kcC⟩ GE b20 GS b23 ⟨a23, i23, k23⟩ GY b25 ⟨a25, i25, k25⟩ GJ b26 ⟨a26, i26, k26⟩ GNm b22 ⟨a22, i22, k22⟩ H7 H8 H12 H13 H14 H15 H16 H17 H18 H10
theorem walk {l : PySem.W.OpenLaw} {q : Program} {loose : List Str} {XP : (Str → Option Value) → Heap → Prop} {YP : World → Heap → Prop} {d : DefRec} {K : Params → PySem.W.Frag} (hn : l.most = some 63) (hdf : d.params.defaults = [])
    (hY : ∀ (w : World) (h : Heap), YP w h → (K w.params).In h)
    (F : ∀ (w : World) (mg : Str → Option Value) (fa : Addr) (h : Heap), (K w.params).In h → h.Ns mainGlobals mg → mg d.name = some (.ref fa) →
      ∃ fd : FuncData, (∀ (s : Shared) (u : Value), BindsTo s fd ⟨[u], []⟩ [("_law_script", u)]) ∧ ∀ base : Heap, (K w.params).In base → base.Ns mainGlobals mg → FnOk l.prog w (K w.params) mg base CX0 7 fa fd ["_law_script"] (spLaw (K w.params))) :
    PySem.W.WalkO q loose XP YP l.row.toRowW d [] (fun f vs => PySem.call f vs) :=
  L2.walk_of (n := 63) (k := 7) (x := "_law_script") (CX := fun _ => CX0) (sp := fun w => spLaw (K w.params)) hn (by decide) hdf ⟨rfl, by decide, by decide⟩ hY F (fun _ _ a ns hl _ hS => ⟨a, ns, rfl, hS, hl, fun _ => rfl⟩) fun _ _ _ _ _ z => z
end Kt
open PySem PySem.W PyProof.Rows
set_option maxRecDepth 100000 in
set_option maxHeartbeats 0 in
theorem PySem.Challenge.cw_kepttogether_k78_whole_commands_holds : PySem.Challenge.rw_kepttogether_k78_whole_commands.Holds := by
  w_on; o_law; k_head; (case hw => w_witness2)
  k_fill
  refine Kt.walk (l := PySem.Challenge.rw_kepttogether_k78_whole_commands) rfl rfl (fun w h Y => PySem.W.km_in_of Y) ?F
  case F =>
    intro w mg fa h KX G hmg
    refine' Kt.all_mk KX G hmg ?a1 ?l1 ?c1 ?k1 ?a2 ?l2 ?c2 ?k2 ?a3 ?l3 ?c3 ?k3 ?a4 ?l4 ?c4 ?k4 ?a5 ?l5 ?c5 ?k5 ?a6 ?l6 ?c6 ?k6 ?a7 ?l7 ?c7 ?k7 ?a8 ?l8 ?c8 ?k8 ?a9 ?l9 ?c9 ?k9 ?a10 ?l10 ?c10 ?k10 ?a11 ?l11 ?c11 ?k11 ?a12 ?l12 ?c12 ?k12 ?a13 ?l13 ?c13 ?k13 ?a14 ?l14 ?c14 ?k14 ?a15 ?l15 ?c15 ?k15 ?a16 ?l16 ?c16 ?k16 ?a17 ?l17 ?c17 ?k17 ?a18 ?l18 ?c18 ?k18 ?a19 ?l19 ?c19 ?k19 ?a20 ?i20 ?l20 ?c20 ?k20 ?a21 ?i21 ?l21 ?c21 ?k21 ?a22 ?i22 ?l22 ?c22 ?k22 ?a23 ?i23 ?l23 ?c23 ?k23 ?a24 ?i24 ?l24 ?c24 ?k24 ?a25 ?i25 ?l25 ?c25 ?k25 ?a26 ?i26 ?l26 ?c26 ?k26 ?a27 ?i27 ?l27 ?c27 ?k27 ?aC ?pgC ?hdC ?poC ?saC ?mkC ?kcC ?nM ?nS ?nC ?aD ?xD ?saD ?gaD ?ggD ?nW ?kD ?eD ?tD ?hD ?iD ?sD ?z_isinstance ?z_len ?z_all ?z_tuple ?z_sorted ?z_enumerate ?z_list ?z_range ?z_abs ?z_int ?z_str ?z_bool ?v1 ?v2 ?v3 ?v4 ?v5
    (case aC => k_is)
    (case aD => k_is)
    (case a1 => k_is)
    (case l1 => k_is)
    (case c1 => k_is)
    (case k1 => k_is)
    (case a2 => k_is)
    (case l2 => k_is)
    (case c2 => k_is)
    (case k2 => k_is)
    (case a3 => k_is)
    (case l3 => k_is)
    (case c3 => k_is)
    (case k3 => k_is)
    (case a4 => k_is)
    (case l4 => k_is)
    (case c4 => k_is)
    (case k4 => k_is)
    (case a5 => k_is)
    (case l5 => k_is)
    (case c5 => k_is)
    (case k5 => k_is)
    (case a6 => k_is)
    (case l6 => k_is)
    (case c6 => k_is)
    (case k6 => k_is)
    (case a7 => k_is)
    (case l7 => k_is)
    (case c7 => k_is)
    (case k7 => k_is)
    (case a8 => k_is)
    (case l8 => k_is)
    (case c8 => k_is)
    (case k8 => k_is)
    (case a9 => k_is)
    (case l9 => k_is)
    (case c9 => k_is)
    (case k9 => k_is)
    (case a10 => k_is)
    (case l10 => k_is)
    (case c10 => k_is)
    (case k10 => k_is)
    (case a11 => k_is)
    (case l11 => k_is)
    (case c11 => k_is)
    (case k11 => k_is)
    (case a12 => k_is)
    (case l12 => k_is)
    (case c12 => k_is)
    (case k12 => k_is)
    (case a13 => k_is)
    (case l13 => k_is)
    (case c13 => k_is)
    (case k13 => k_is)
    (case a14 => k_is)
    (case l14 => k_is)
    (case c14 => k_is)
    (case k14 => k_is)
    (case a15 => k_is)
    (case l15 => k_is)
    (case c15 => k_is)
    (case k15 => k_is)
    (case a16 => k_is)
    (case l16 => k_is)
    (case c16 => k_is)
    (case k16 => k_is)
    (case a17 => k_is)
    (case l17 => k_is)
    (case c17 => k_is)
    (case k17 => k_is)
    (case a18 => k_is)
    (case l18 => k_is)
    (case c18 => k_is)
    (case k18 => k_is)
    (case a19 => k_is)
    (case l19 => k_is)
    (case c19 => k_is)
    (case k19 => k_is)
    (case a20 => k_is)
    (case i20 => k_is)
    (case l20 => k_is)
    (case c20 => k_is)
    (case k20 => k_is)
    (case a21 => k_is)
    (case i21 => k_is)
    (case l21 => k_is)
    (case c21 => k_is)
    (case k21 => k_is)
    (case a22 => k_is)
    (case i22 => k_is)
    (case l22 => k_is)
    (case c22 => k_is)
    (case k22 => k_is)
    (case a23 => k_is)
    (case i23 => k_is)
    (case l23 => k_is)
    (case c23 => k_is)
    (case k23 => k_is)
    (case a24 => k_is)
    (case i24 => k_is)
    (case l24 => k_is)
    (case c24 => k_is)
    (case k24 => k_is)
    (case a25 => k_is)
    (case i25 => k_is)
    (case l25 => k_is)
    (case c25 => k_is)
    (case k25 => k_is)
    (case a26 => k_is)
    (case i26 => k_is)
    (case l26 => k_is)
    (case c26 => k_is)
    (case k26 => k_is)
    (case a27 => k_is)
    (case i27 => k_is)
    (case l27 => k_is)
    (case c27 => k_is)
    (case k27 => k_is)
    (case pgC => k_is)
    (case hdC => k_is)
    (case poC => k_is)
    (case saC => k_is)
    (case mkC => k_is)
    (case kcC => k_is)
    (case nM => k_is)
    (case nS => k_is)
    (case nC => k_is)
    (case xD => k_is)
    (case saD => k_is)
    (case gaD => k_is)
    (case ggD => k_is)
    (case nW => k_is)
    (case kD => k_is)
    (case eD => k_is)
    (case tD => k_is)
    (case hD => k_is)
    (case iD => k_is)
    (case sD => first | rfl | k_is)
    (case z_isinstance => k_is)
    (case z_len => k_is)
    (case z_all => k_is)
    (case z_tuple => k_is)
    (case z_sorted => k_is)
    (case z_enumerate => k_is)
    (case z_list => k_is)
    (case z_range => k_is)
    (case z_abs => k_is)
    (case z_int => k_is)
    (case z_str => k_is)
    (case z_bool => k_is)
    (case v1 => k_is)
    (case v2 => k_is)
    (case v3 => k_is)
    (case v4 => k_is)
    (case v5 => k_is)
#print axioms PySem.Challenge.cw_kepttogether_k78_whole_commands_holds
