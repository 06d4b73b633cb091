import PyProof.Rows.All
import HandS.ForMost
import HandS.AnyAll
import HandS.Walk
import HandS.Wide
import HandS.TupAny
import HandS.Style
import HandS.Deep
import HandS.Steps
import HandS.HeadWalk
import HandS.HeadHook4
import PySem.Challenge.RW_foundry_k00_words_of_lines
import HandS.NestedK
set_option Elab.async false
set_option linter.all false
set_option maxRecDepth 100000
/-! all, any of a generator expression over the signs of a text, whose element may read names of the module -/
namespace Gx
open PySem PySem.Spec PyProof.Rows L2 GxR
/-- the element tests the sign; it may read what stands in the base heap -/
def SignT (X : Cx) (sc : Scope) (x : Str) (e : Expr) (pb : Nat → Bool) : Prop :=
  ∀ (ce : Env) (B : Around) (E' : Value → Shared → Prop) (c : Nat) (t : Tok) (s2 : Shared) (m2 : Str → Option Value),
    ce.scope = sc → ce.globals = mainGlobals → (∀ b o, X.base.get? b = some o → s2.heap.get? b = some o) → s2.heap.Ns ce.locals m2 →
    m2 x = some (.str ⟨#[c]⟩ t) → wpAny (model X.prog X.w) B (eval e ce) (fun y s3 => y = .bool (pb c) ∧ Keeps s2 s3) E' s2
/-- x in NAME, NAME a text of the module -/
theorem signT_in {X : Cx} {sc : Scope} {x g : Str} {z : Str} {p1 p2 p3 : Pos} (hm : ∃ t, X.mg g = some (.str z t)) (hb : X.base.Ns mainGlobals X.mg)
    (hk : sc.kind = .function) (hl : sc.names.lookup x = some .local) (hg : sc.names.lookup g = some .globalImplicit)
    (d1 : (x == ("__debug__" : Str)) = false := by decide) (d2 : (g == ("__debug__" : Str)) = false := by decide) :
    SignT X sc x (.Compare (.Name x p1) [.In] [.Name g p2] p3) (fun c => decide (c ∈ z.cps.toList)) := by
  intro ce B E' c t s2 m2 hs hgl hbk hn hx
  obtain ⟨tz, ez⟩ := hm
  refine wpAny_Compare1 ?_
  refine wpAny_Name (wpAny_loadName_local (by rw [hs]; exact hk) (by show ce.scope.names.lookup x = some .local; rw [hs]; exact hl) hn hx ?_) d1
  refine Calls.Name_function_global (by rw [hs]; exact hk) (by show ce.scope.names.lookup g = _; rw [hs]; exact hg) (Calls.loadGlobal_global (by rw [hgl]; exact hb.keeps hbk) ez ?_) d2
  refine PyProof.Rows.in_str ?_
  exact ⟨by rw [PySem.StrLaws.found_one z c], keeps_refl _⟩
section
variable {X : Cx} {pins : List (Addr × Obj)} {σ : L2.St} {H : Hp} {s : Shared}
theorem gen_signs {c P : Addr} {e it : Expr} {x : Str} {px gpos : Pos} {sc : Scope} {pb : Nat → Bool} {te : TE} {k : Nat} {Q' : Value → Shared → Prop} {R : Str → Hp → Prop}
    (hr : Room k X.A) (TB : TabB X.base X.mg c P) (hcode : X.env.code = .ref c) (S : GenS X.env sc x) (hi : PE X it te) (hel : SignT X sc x e pb)
    (hs : ∀ v, genFold it X.env v = pure v) (I : Inv X pins σ H s) (h : te σ H fun v H1 => ∃ a : Str, v = .str a ∧ TabG H1 P ∧ R a H1)
    (hQ : ∀ a H1 g s5, R a H1 → Ready X pins σ H1 P a pb g s5 → Q' (.ref g) s5) :
    wpAny (model X.prog X.w) X.A (eval (.GeneratorExp e [⟨.Name x px, it, [], 0⟩] sc gpos) X.env) Q' X.xe s := by
  have hdep := hr.dp
  refine wpAny_GeneratorExp_walksQ hr.hd S.co (closure_ok S.free) S.cell S.dot S.loc S.kind (by omega) ?_ hs
  refine thn (hi.run pins s σ H _ I h) fun xv s1 hx1 => ?_
  obtain ⟨v, H1, I1, r1, a, rfl, ⟨ps, hP, ht⟩, hR⟩ := hx1
  obtain ⟨t, rfl⟩ := _root_.id r1
  refine wpAny_pyIter_str fun o St W hst => ?_
  have hPs : s1.heap.get? P = some { cls := .none, data := .fields ps } := I1.hok P _ hP
  have hPlt := Heap.lt_size hPs
  have up : ∀ b u, s1.heap.get? b = some u → (s1.heap.push o).get? b = some u := fun b u q => Heap.get?_push_of_some _ q
  have cd : PySem.W.CodeHd (s1.heap.push o) c P := TB.code.keeps fun b u q => up b u (I1.bk b u q)
  have lim2 : (s1.heap.push o).NoLimit := I1.nolimit.push o
  have sz2 : (s1.heap.push o).objs.size = s1.heap.objs.size + 1 := Heap.size_push ..
  refine ⟨lim2, ?_⟩
  -- from the code object on, however it was found
  have go : ∀ (code : Value) (h3 : Heap) (tk : Nat) (more : Array Value), Heap.ExtBut P (s1.heap.push o) h3 → (s1.heap.push o).objs.size ≤ h3.objs.size →
      h3.get? P = some { cls := .none, data := .fields (ps ++ more) } → TriplesOk (ps ++ more).toList →
      wpAny (model X.prog X.w) X.A (builtinsFor X.env.globals X.env.builtins) (fun bi s₄ =>
        ∃ Ia fp wr n₀ Pf St₀ pz F, Value.ref s1.heap.objs.size = .ref Ia ∧ (∀ A' : Around, A'.handled = none → Walks X.prog X.w A' Ia fp wr n₀ Pf St₀) ∧ St₀ 0 s₄.heap ∧ (∀ b ∈ fp, b < s₄.heap.objs.size) ∧ s₄.heap.NoLimit ∧ cStatics ∉ wr ∧
          (∀ href : Heap, (∀ b o, s₄.heap.get? b = some o → href.get? b = some o) →
            QuietGen X.prog X.w (genEnv sc (cloFrom X.env.cells sc.names []) s₄.heap.objs.size code bi X.env) x [] e (List.range s₄.heap.objs.size) wr Pf pz F href) ∧
          (∀ a h₅ tk gs, gs.bare = true → s₄.heap.objs.size < a → h₅.objs.size = a + 1 → (∀ b o, s₄.heap.get? b = some o → h₅.get? b = some o) →
            WalksS X.prog X.w X.A.in4 a (a :: s₄.heap.objs.size :: List.range s₄.heap.objs.size) (s₄.heap.objs.size :: wr) (GenOnlyQ s₄.gens.size) (passing pz n₀ 0).length
              (fun j y => ∃ i, (passing pz n₀ 0)[j]? = some i ∧ F i y) (GenAt X.prog X.w X.A.in4 a s₄.gens.size s₄.heap.objs.size (List.range s₄.heap.objs.size) wr pz n₀ F) →
            GenAt X.prog X.w X.A.in4 a s₄.gens.size s₄.heap.objs.size (List.range s₄.heap.objs.size) wr pz n₀ F 0 { s₄ with gens := s₄.gens.push gs, toks := tk, heap := h₅ } →
            Q' (.ref a) { s₄ with gens := s₄.gens.push gs, toks := tk, heap := h₅ })) X.xe { s1 with heap := h3, toks := tk } := by
    intro code h3 tk more hx3 hsz hP3 ht3
    have kp3 : ∀ b u, b ≠ P → s1.heap.get? b = some u → h3.get? b = some u := fun b u nb q => hx3 b u nb (up b u q)
    have bse : ∀ b u, X.base.get? b = some u → b ≠ P ∧ s1.heap.get? b = some u := fun b u q => by
      obtain ⟨g1, g2⟩ := I1.bs b u q
      exact ⟨fun z => (by rw [z, hP] at g2; cases g2), g1⟩
    obtain ⟨bm, ob, b1, b2, b3, b4, b5, b6, b7, b8⟩ := TB.bm
    have lim3 : h3.NoLimit := lim2.extBut hx3 fun z => by
      obtain ⟨_, ⟨o', es, ep, ho, hd, _⟩, _⟩ := I1.nolimit
      rw [z, hPs] at ho
      cases ho
      cases hd
    have hcl : cStatics < s1.heap.objs.size := let ⟨_, hns, _⟩ := I1.nolimit; hns.lt
    refine wpAny_builtinsFor (m := X.mg) (by rw [I1.ok.glob]; exact I1.mod.glob.keeps fun b u q => kp3 b u (bse b u q).1 (bse b u q).2) b1 b2 (kp3 _ _ b4 (I1.bk _ _ b5)) b6 b7 b8 ?_
    refine ⟨_, [s1.heap.objs.size], [s1.heap.objs.size], a.cps.size, SignAt a, St, fun _ => true, fun i y => ∃ cc, a.cps[i]? = some cc ∧ y = .bool (pb cc), rfl, W, ?_, ?_, lim3, ?_, ?_, ?_⟩
    · refine (W X.A hr.hd).frame _ _ _ hst fun b hb u q => hx3 b u ?_ q
      have eb : b = s1.heap.objs.size := by simpa using hb
      rw [eb]
      exact fun z => Nat.lt_irrefl _ (by rw [z] at hPlt; exact hPlt)
    · intro b hb
      have eb : b = s1.heap.objs.size := by simpa using hb
      rw [eb]
      exact Nat.lt_of_lt_of_le (by rw [sz2]; exact Nat.lt_succ_self _) hsz
    · intro z
      have ez : cStatics = s1.heap.objs.size := by simpa using z
      rw [ez] at hcl
      exact Nat.lt_irrefl _ hcl
    · intro href hhref
      have kb : ∀ (s₂ : Shared), (∀ b ∈ List.range h3.objs.size, b ∉ [s1.heap.objs.size] → ∀ u, href.get? b = some u → s₂.heap.get? b = some u) → ∀ b u, X.base.get? b = some u → s₂.heap.get? b = some u := fun s₂ hk b u q => by
        obtain ⟨g1, g2⟩ := bse b u q
        have l1 := Heap.lt_size g2
        have l3 := Heap.lt_size (kp3 b u g1 g2)
        exact hk b (List.mem_range.mpr l3) (fun z => Nat.ne_of_lt l1 (by simpa using z)) u (hhref b u (kp3 b u g1 g2))
      constructor
      · intro A' E' i v s₂ m₂ hA hPv hn hm hk
        rw [List.forIn_nil]
        exact wpAny_pure ⟨rfl, keeps_refl _⟩
      · intro A' E' i v s₂ m₂ hA hPv hp hn hm hk
        obtain ⟨cc, u, hcc, rfl⟩ := hPv
        exact wpAny_mono (hel _ A' E' cc u s₂ m₂ rfl I1.ok.glob (kb s₂ hk) hn hm) (fun y s3 r => ⟨⟨cc, hcc, r.1⟩, r.2⟩) fun _ _ q => q
    · intro g h5 tk5 gs hgb hag hsz5 hk5 W5 hat
      simp only [GxR.passing_true, List.length_range] at W5
      refine hQ a H1 g _ hR ⟨_, _, _, _, _, W5.in4_1, hat, ?_, fun s' hm => ?_⟩
      · intro j y sj Qj Ej hy hQj
        obtain ⟨i, hij, cc, hcc, rfl⟩ := hy
        have ej : i = j := by
          obtain ⟨hj, ej⟩ := List.getElem?_eq_some_iff.mp hij
          rw [List.getElem_range] at ej
          exact ej.symm
        subst ej
        refine wpAny_truthy_bool ?_
        have e9 : a.cps.toList[i]? = some cc := by rw [Array.getElem?_toList]; exact hcc
        have e8 : trF pb a.cps.toList i = pb cc := trF_some e9
        rw [← e8]
        exact hQj
      · have nwr : ∀ b u, s1.heap.get? b = some u → b ∉ h3.objs.size :: [s1.heap.objs.size] := fun b u q hb => by
          have hl := Heap.lt_size q
          have hb2 : b = h3.objs.size ∨ b = s1.heap.objs.size := by simpa using hb
          have h9 : (s1.heap.push o).objs.size ≤ h3.objs.size := hsz
          rcases hb2 with z | z
          · rw [z] at hl
            exact Nat.lt_irrefl _ (Nat.lt_of_lt_of_le (Nat.lt_of_lt_of_le (by rw [sz2]; exact Nat.lt_succ_of_lt hl) hsz) (Nat.le_refl _))
          · rw [z] at hl
            exact Nat.lt_irrefl _ hl
        have J := inv_tab (more := more) (h' := s'.heap) (g' := s'.gens) (d' := s'.drawn) (t' := s'.toks) I1 hP (fun b u hb q => hm.heap b u (nwr b u q) (hk5 b u (kp3 b u hb q)))
          (hm.heap P _ (nwr P _ hPs) (hk5 P _ hP3)) (AllBare.movedS (I1.bare.push hgb) hm)
        rw [sh_eta s1 s' hm.os] at J
        exact ⟨upd H1 P (.tbl (ps ++ more)), ⟨⟨ps ++ more, upd_same, ht3⟩, fun b hb => upd_ne hb⟩, J⟩
  have hP2 : (s1.heap.push o).get? P = some { cls := .none, data := .fields ps } := up P _ hPs
  cases hf : codeAmong gpos ps.toList with
  | some cv =>
    refine wpAny_genexprCode_hit hcode (cd.code hP2 ht) hf ?_
    exact go cv (s1.heap.push o) s1.toks #[] (Heap.ExtBut.refl _ _) (Nat.le_refl _) (by simpa using hP2) (by simpa using ht)
  | none =>
    refine wpAny_genexprCodeX hcode (cd.code hP2 ht) (cd.tab hP2) hf fun c' h' tk hx hge hlt hco' _ htab' _ => ?_
    obtain ⟨o1, vs, f1, tf, fl, tg, inF, tx, tt, op, _, _, _, _, _, _, _, _, _, htr, _⟩ := hco'
    exact go _ h' tk _ hx (Nat.le_trans hge (Nat.le_of_lt hlt)) htab'.2 htr
theorem pe_allT {c P : Addr} {e it : Expr} {x : Str} {px p pos gpos : Pos} {sc : Scope} {pb : Nat → Bool} {te : TE} {k : Nat}
    (hr : Room k X.A) (hg : Gl X "all") (hm : X.mg "all" = none) (TB : TabB X.base X.mg c P) (hcode : X.env.code = .ref c) (S : GenS X.env sc x) (hi : PE X it te) (hel : SignT X sc x e pb)
    (hs : ∀ v, genFold it X.env v = pure v)
    (he : starEach [.GeneratorExp e [⟨.Name x px, it, [], 0⟩] sc gpos] X.env = (false, eval (.GeneratorExp e [⟨.Name x px, it, [], 0⟩] sc gpos) X.env) :: starEach [] X.env := by rfl) :
    PE X (.Call (.Name "all" p) [.GeneratorExp e [⟨.Name x px, it, [], 0⟩] sc gpos] [] pos) (tAllS P pb te) := by
  refine ⟨fun pins s σ H Q I h => ?_⟩
  refine wpAny_Call_Name_kw (ld_blt I hg hm boot_all ?_)
  refine PyProof.Rows.callWith_builtin1 ?_ he (by rfl)
  rw [he]
  show wpAny _ _ (spliced ((false, eval (.GeneratorExp e [⟨.Name x px, it, [], 0⟩] sc gpos) X.env) :: backTo pos (starEach [] X.env))) _ _ s
  refine Calls.spliced_cons (gen_signs (R := fun a H1 => ∀ H2, Tabbed P H1 H2 → Q (.bl (a.cps.toList.all pb)) H2) hr TB hcode S hi hel hs I h fun a H1 g s5 hR hG => ?_)
  obtain ⟨fp, wr, G, F, St, W, hst, htr, hI⟩ := hG
  refine Calls.spliced_nil (call_all_walkS (W.self 0 _ _ _ hst ⟨g, fp, wr, G, _, F, St, _, rfl, W, hst, htr, fun s' hmv => ?_⟩))
  obtain ⟨H2, hT, J⟩ := hI s' hmv
  exact ⟨.bl _, H2, J, rfl, by rw [all_signs a pb]; exact hR H2 hT⟩
end
end Gx
set_option Elab.async false
set_option linter.all false
set_option maxRecDepth 100000
/-! DL1: data without addresses, the slots as data, what a reading of the hand layer does to them -/
namespace DL
open PySem PySem.Spec PyProof.Rows L2
/-! ### data -/
inductive Dt where
  | non | bl (b : Bool) | int (i : Int) | str (s : List Nat) | lst (xs : List Dt) | tup (xs : List Dt)
  deriving Inhabited
mutual
def Dt.py : Dt → PyData
  | .non => .none
  | .bl b => .bool b
  | .int i => .int i
  | .str s => .str ⟨s.toArray⟩
  | .lst xs => .list (pys xs)
  | .tup xs => .tuple (pys xs)
def pys : List Dt → List PyData
  | [] => []
  | d :: ds => d.py :: pys ds
end
mutual
/-- == of data -/
def eqD : Dt → Dt → Bool
  | .non, .non => true
  | .bl a, .bl b => a == b
  | .bl a, .int j => (if a then 1 else 0) == j
  | .int i, .bl b => i == (if b then 1 else 0)
  | .int i, .int j => i == j
  | .str s, .str t => s == t
  | .lst xs, .lst ys => eqDs xs ys
  | .tup xs, .tup ys => eqDs xs ys
  | _, _ => false
def eqDs : List Dt → List Dt → Bool
  | [], [] => true
  | x :: xs, y :: ys => eqD x y && eqDs xs ys
  | _, _ => false
end
mutual
theorem eqD_py : ∀ a b : Dt, PyData.eqv a.py b.py = eqD a b
  | .non, b => by cases b <;> simp [Dt.py, PyData.eqv, eqD]
  | .bl x, b => by cases b <;> simp [Dt.py, PyData.eqv, eqD]
  | .int x, b => by cases b <;> simp [Dt.py, PyData.eqv, eqD]
  | .str x, b => by
    cases b <;> simp [Dt.py, PyData.eqv, eqD]
    rename_i y
    rw [Bool.eq_iff_iff, beq_iff_eq, beq_iff_eq]
    constructor
    · intro h
      have := congrArg (fun z : Str => z.cps.toList) h
      simpa using this
    · intro h; rw [h]
  | .lst x, b => by
    cases b <;> simp [Dt.py, PyData.eqv, eqD]
    exact eqDs_py x _
  | .tup x, b => by
    cases b <;> simp [Dt.py, PyData.eqv, eqD]
    exact eqDs_py x _
theorem eqDs_py : ∀ a b : List Dt, PyData.eqvAll (pys a) (pys b) = eqDs a b
  | [], [] => by simp [pys, PyData.eqvAll, eqDs]
  | [], _ :: _ => by simp [pys, PyData.eqvAll, eqDs]
  | _ :: _, [] => by simp [pys, PyData.eqvAll, eqDs]
  | x :: xs, y :: ys => by simp [pys, PyData.eqvAll, eqDs, eqD_py x y, eqDs_py xs ys]
end
mutual
/-- how deep; signs within what signs are -/
def Dt.dep : Dt → Nat
  | .lst xs | .tup xs => deps xs + 1
  | _ => 0
def deps : List Dt → Nat
  | [] => 0
  | x :: xs => max x.dep (deps xs)
end
mutual
def Dt.sgn : Dt → Bool
  | .str s => s.all (· < 0x110000)
  | .lst xs | .tup xs => sgns xs
  | _ => true
def sgns : List Dt → Bool
  | [] => true
  | x :: xs => x.sgn && sgns xs
end
def Dt.shp (d : Dt) : Bool := d.sgn && Nat.ble d.dep 60
mutual
theorem sgn_py : ∀ d : Dt, d.py.canLay0 = d.sgn
  | .non => by simp [Dt.py, PyData.canLay0, Dt.sgn]
  | .bl _ => by simp [Dt.py, PyData.canLay0, Dt.sgn]
  | .int _ => by simp [Dt.py, PyData.canLay0, Dt.sgn]
  | .str s => by simp [Dt.py, PyData.canLay0, Dt.sgn, PyData.strOk]
  | .lst xs => by simp [Dt.py, PyData.canLay0, Dt.sgn, sgns_py xs]
  | .tup xs => by simp [Dt.py, PyData.canLay0, Dt.sgn, sgns_py xs]
theorem sgns_py : ∀ ds : List Dt, PyData.canLayAll0 (pys ds) = sgns ds
  | [] => by simp [pys, PyData.canLayAll0, sgns]
  | d :: ds => by simp [pys, PyData.canLayAll0, sgns, sgn_py d, sgns_py ds]
end
mutual
theorem dep_py : ∀ d : Dt, d.py.depth = d.dep
  | .non => by simp [Dt.py, PyData.depth, Dt.dep]
  | .bl _ => by simp [Dt.py, PyData.depth, Dt.dep]
  | .int _ => by simp [Dt.py, PyData.depth, Dt.dep]
  | .str s => by simp [Dt.py, PyData.depth, Dt.dep]
  | .lst xs => by simp [Dt.py, PyData.depth, Dt.dep, deps_py xs]
  | .tup xs => by simp [Dt.py, PyData.depth, Dt.dep, deps_py xs]
theorem deps_py : ∀ ds : List Dt, PyData.depthAll (pys ds) = deps ds
  | [] => by simp [pys, PyData.depthAll, deps]
  | d :: ds => by simp [pys, PyData.depthAll, deps, dep_py d, deps_py ds]
end
theorem shp_ok {d : Dt} (h : d.shp = true) : SeqAt.shaped d.py = true := by
  unfold Dt.shp at h
  rw [Bool.and_eq_true] at h
  show (d.py.canLay0 && decide (d.py.depth ≤ 64)) = true
  rw [sgn_py, dep_py, h.1, Bool.true_and]
  have := Nat.le_of_ble_eq_true h.2
  exact decide_eq_true (by omega)
theorem shpL_ok {ds : List Dt} (h : (Dt.lst ds).shp = true) : SeqAt.shaped (.list (pys ds)) = true := shp_ok (d := .lst ds) h
theorem any_py (d : Dt) : ∀ ds : List Dt, ((pys ds).any fun z => PyData.eqv z d.py) = ds.any fun z => eqD z d
  | [] => rfl
  | x :: xs => by simp [pys, eqD_py, any_py d xs]
theorem pys_length : ∀ ds : List Dt, (pys ds).length = ds.length
  | [] => rfl
  | _ :: ds => by simp [pys, pys_length ds]
/-! ### values that bear data -/
mutual
inductive Rp (K : PySem.W.Frag) (H : Hp) : V → Dt → Prop
  | non : Rp K H .non .non
  | bl (b : Bool) : Rp K H (.bl b) (.bl b)
  | int (i : Int) : Rp K H (.int i) (.int i)
  | str (s : List Nat) : Rp K H (.str ⟨s.toArray⟩) (.str s)
  | lst {a : Addr} {xs : List V} {ds : List Dt} : SqL K H a xs → Rps K H xs ds → Rp K H (.ref a) (.lst ds)
  | tup {a : Addr} {xs : List V} {ds : List Dt} : SqT K H a xs → Rps K H xs ds → Rp K H (.ref a) (.tup ds)
inductive Rps (K : PySem.W.Frag) (H : Hp) : List V → List Dt → Prop
  | nil : Rps K H [] []
  | cons {v : V} {vs : List V} {d : Dt} {ds : List Dt} : Rp K H v d → Rps K H vs ds → Rps K H (v :: vs) (d :: ds)
end
section
variable {K : PySem.W.Frag} {H B : Hp}
mutual
theorem Rp.dp : ∀ {d : Dt} {v : V}, Rp K H v d → Dp K H v d.py
  | .non, _, h => by cases h; exact .non
  | .bl _, _, h => by cases h; exact .bl _
  | .int _, _, h => by cases h; exact .int _
  | .str _, _, h => by cases h; exact .str _
  | .lst ds, _, h => by
    cases h with
    | lst h1 h2 => exact .lst h1 (Rps.dp h2)
  | .tup ds, _, h => by
    cases h with
    | tup h1 h2 => exact .tup h1 (Rps.dp h2)
theorem Rps.dp : ∀ {ds : List Dt} {vs : List V}, Rps K H vs ds → DpAll K H vs (pys ds)
  | [], _, h => by cases h; exact .nil
  | d :: ds, _, h => by
    cases h with
    | cons h1 h2 => exact .cons (Rp.dp h1) (Rps.dp h2)
end
/-- all that stands in the one stands in the other -/
def Gr (B H : Hp) : Prop := ∀ a o, B a = some o → H a = some o
theorem Gr.refl : Gr H H := fun _ _ e => e
theorem Gr.trans {A B C : Hp} (h : Gr A B) (g : Gr B C) : Gr A C := fun a o e => g a o (h a o e)
theorem Gr.rd {a : Addr} {u : HO} (g : Gr B H) (h : Rd B a u) : Rd H a u := by
  rcases h with h | ⟨o, h⟩
  · exact .inl (g _ _ h)
  · exact .inr ⟨o, g _ _ h⟩
theorem Gr.sqL {a : Addr} {xs : List V} (g : Gr B H) (h : SqL K B a xs) : SqL K H a xs := by
  rcases h with h | h
  · exact .inl (g.rd h)
  · exact .inr h
theorem Gr.sqT {a : Addr} {xs : List V} (g : Gr B H) (h : SqT K B a xs) : SqT K H a xs := by
  rcases h with h | h
  · exact .inl (g.rd h)
  · exact .inr h
mutual
theorem Rp.up (g : Gr B H) : ∀ {d : Dt} {v : V}, Rp K B v d → Rp K H v d
  | .non, _, h => by cases h; exact .non
  | .bl _, _, h => by cases h; exact .bl _
  | .int _, _, h => by cases h; exact .int _
  | .str _, _, h => by cases h; exact .str _
  | .lst ds, _, h => by
    cases h with
    | lst h1 h2 => exact .lst (g.sqL h1) (Rps.up g h2)
  | .tup ds, _, h => by
    cases h with
    | tup h1 h2 => exact .tup (g.sqT h1) (Rps.up g h2)
theorem Rps.up (g : Gr B H) : ∀ {ds : List Dt} {vs : List V}, Rps K B vs ds → Rps K H vs ds
  | [], _, h => by cases h; exact .nil
  | d :: ds, _, h => by
    cases h with
    | cons h1 h2 => exact .cons (Rp.up g h1) (Rps.up g h2)
end
theorem Rps.length : ∀ {vs : List V} {ds : List Dt}, Rps K H vs ds → vs.length = ds.length
  | _, [], h => by cases h; rfl
  | _, _ :: ds, h => by
    cases h with
    | cons _ h2 => simp [Rps.length h2]
theorem Rps.get : ∀ {vs : List V} {ds : List Dt} {i : Nat} {d : Dt}, Rps K H vs ds → ds[i]? = some d → ∃ v, vs[i]? = some v ∧ Rp K H v d
  | _, [], _, _, _, e => by simp at e
  | _, _ :: _, 0, _, h, e => by
    cases h with
    | cons h1 _ => exact ⟨_, rfl, by simp at e; rw [← e]; exact h1⟩
  | _, _ :: _, i + 1, _, h, e => by
    cases h with
    | cons _ h2 => exact Rps.get (i := i) h2 (by simpa using e)
theorem Rps.app : ∀ {vs ws : List V} {ds es : List Dt}, Rps K H vs ds → Rps K H ws es → Rps K H (vs ++ ws) (ds ++ es)
  | _, _, [], _, h, g => by cases h; exact g
  | _, _, _ :: _, _, h, g => by
    cases h with
    | cons h1 h2 => exact .cons h1 (Rps.app h2 g)
theorem Rps.take : ∀ {vs : List V} {ds : List Dt} (n : Nat), Rps K H vs ds → Rps K H (vs.take n) (ds.take n)
  | _, _, 0, _ => .nil
  | _, [], _ + 1, h => by cases h; exact .nil
  | _, _ :: _, n + 1, h => by
    cases h with
    | cons h1 h2 => exact .cons h1 (Rps.take n h2)
theorem Rps.drop : ∀ {vs : List V} {ds : List Dt} (n : Nat), Rps K H vs ds → Rps K H (vs.drop n) (ds.drop n)
  | _, _, 0, h => h
  | _, [], _ + 1, h => by cases h; exact .nil
  | _, _ :: _, n + 1, h => by
    cases h with
    | cons h1 h2 => exact Rps.drop n h2
theorem Rps.set {v : V} {d : Dt} (r : Rp K H v d) : ∀ {vs : List V} {ds : List Dt} (n : Nat), Rps K H vs ds → Rps K H (vs.set n v) (ds.set n d)
  | _, [], _, h => by cases h; exact .nil
  | _, _ :: _, 0, h => by
    cases h with
    | cons _ h2 => exact .cons r h2
  | _, _ :: _, n + 1, h => by
    cases h with
    | cons h1 h2 => exact .cons h1 (Rps.set r n h2)
theorem Rps.rep {vs : List V} {ds : List Dt} (h : Rps K H vs ds) : ∀ n : Nat, Rps K H (List.replicate n vs).flatten (List.replicate n ds).flatten
  | 0 => .nil
  | n + 1 => by
    rw [List.replicate_succ, List.replicate_succ, List.flatten_cons, List.flatten_cons]
    exact h.app (Rps.rep h n)
theorem Rps.rev : ∀ {vs : List V} {ds : List Dt}, Rps K H vs ds → Rps K H vs.reverse ds.reverse
  | _, [], h => by cases h; exact .nil
  | _, _ :: _, h => by
    cases h with
    | cons h1 h2 =>
      rw [List.reverse_cons, List.reverse_cons]
      exact (Rps.rev h2).app (.cons h1 .nil)
theorem rps_ints : ∀ (ns : List Int), Rps K H (ns.map V.int) (ns.map Dt.int)
  | [] => .nil
  | n :: ns => .cons (.int n) (rps_ints ns)
end
/-! ### steps of the heap: B is what never changes any more, O are cells that may -/
structure Stp (O : Addr → Prop) (B H B' H' : Hp) : Prop where
  bb : Gr B B'
  nw : ∀ a, B a = none → H a ≠ none → ¬ O a → B' a = none
  hh : ∀ a o, H a = some o → (∀ ps, o ≠ .tbl ps) → ¬ O a → H' a = some o
  th : ∀ a, H a ≠ none → H' a ≠ none
  tb : ∀ p, GxR.TabG H p → GxR.TabG H' p
  bt : ∀ a ps, B' a = some (.tbl ps) → B a = some (.tbl ps)
theorem Stp.refl {O : Addr → Prop} {B H : Hp} : Stp O B H B H := ⟨Gr.refl, fun _ e _ _ => e, fun _ _ e _ _ => e, fun _ e => e, fun _ e => e, fun _ _ e => e⟩
theorem Stp.mono {O O' : Addr → Prop} {B H B' H' : Hp} (s : Stp O B H B' H') (h : ∀ a, O a → O' a) : Stp O' B H B' H' :=
  ⟨s.bb, fun a e n o => s.nw a e n fun z => o (h a z), fun a u e n o => s.hh a u e n fun z => o (h a z), s.th, s.tb, s.bt⟩
theorem Stp.trans {O O' : Addr → Prop} {B H B1 H1 B2 H2 : Hp} (s : Stp O B H B1 H1) (t : Stp O' B1 H1 B2 H2) (h : ∀ a, O' a → O a ∨ H a = none) : Stp O B H B2 H2 where
  bb := s.bb.trans t.bb
  nw := fun a e n o => t.nw a (s.nw a e n o) (s.th a n) fun z => (h a z).elim o n
  hh := fun a u e n o => t.hh a u (s.hh a u e n o) n fun z => (h a z).elim o (by rw [e]; exact fun q => by cases q)
  th := fun a e => t.th a (s.th a e)
  tb := fun p e => t.tb p (s.tb p e)
  bt := fun a ps e => s.bt a ps (t.bt a ps e)
/-! ### slots as data -/
inductive Ow where
  | sh (d : Dt) | lst (ds : List Dt)
abbrev DEnv := List (Option Ow)
def frz : Ow → Dt
  | .sh d => d
  | .lst ds => .lst ds
/-- an activation: what never changed, and the heap, at its entry; cells of its callers that it may change -/
structure Act where
  K : PySem.W.Frag
  B0 : Hp
  H0 : Hp
  O : Addr → Prop
structure SD (F : Act) (σ : L2.St) (H B : Hp) (env : DEnv) : Prop where
  len : σ.length = env.length
  ent : Stp F.O F.B0 F.H0 B H
  gr : Gr B H
  slot : ∀ (i : Nat) (d : Dt), env[i]? = some (some (.sh d)) → ∃ v, σ[i]? = some (some v) ∧ Rp F.K B v d
  own : ∀ (i : Nat) (ds : List Dt), env[i]? = some (some (.lst ds)) → ∃ (l : Addr) (vs : List V), σ[i]? = some (some (.ref l)) ∧ B l = none ∧ (F.H0 l = none ∨ F.O l) ∧ H l = some (.lst vs) ∧ Rps F.K B vs ds
  dist : ∀ (i j : Nat) (ds es : List Dt) (l : Addr), env[i]? = some (some (.lst ds)) → env[j]? = some (some (.lst es)) → σ[i]? = some (some (.ref l)) → σ[j]? = some (some (.ref l)) → i = j
/-- the cells of a list that a slot has for itself -/
def OA (σ : L2.St) (env : DEnv) (a : Addr) : Prop := ∃ (i : Nat) (ds : List Dt), env[i]? = some (some (.lst ds)) ∧ σ[i]? = some (some (.ref a))
/-- a value that an expression hands on; a list of .lst is new since the heap Hs, and nothing else leans on it -/
def WOk (F : Act) (Hs H B : Hp) (v : V) : Ow → Prop
  | .sh d => Rp F.K B v d
  | .lst ds => ∃ l vs, v = V.ref l ∧ B l = none ∧ Hs l = none ∧ H l = some (.lst vs) ∧ Rps F.K B vs ds
section
variable {F : Act} {σ : L2.St} {H B H' B' : Hp} {env env' : DEnv}
/-- a step that keeps the slots' own cells -/
theorem SD.step (S : SD F σ H B env) (t : Stp (fun _ => False) B H B' H') (g : Gr B' H') : SD F σ H' B' env where
  len := S.len
  ent := S.ent.trans t fun _ z => z.elim
  gr := g
  slot := fun i d e => let ⟨v, h1, h2⟩ := S.slot i d e; ⟨v, h1, h2.up t.bb⟩
  own := fun i ds e => by
    obtain ⟨l, vs, h1, h2, h3, h4, h5⟩ := S.own i ds e
    exact ⟨l, vs, h1, t.nw l h2 (by rw [h4]; exact fun q => by cases q) (fun z => z), h3, t.hh l _ h4 (fun ps q => by cases q) (fun z => z), h5.up t.bb⟩
  dist := S.dist
theorem SD.own0 (S : SD F σ H B env) {a : Addr} (h : OA σ env a) : B a = none ∧ (F.O a ∨ F.H0 a = none) ∧ ∃ vs, H a = some (.lst vs) := by
  obtain ⟨i, ds, e1, e2⟩ := h
  obtain ⟨l, vs, h1, h2, h3, h4, _⟩ := S.own i ds e1
  rw [h1] at e2
  cases e2
  exact ⟨h2, h3.symm, vs, h4⟩
theorem SD.fresh (S : SD F σ H B env) {p : Addr} (h : H p = none) : F.H0 p = none ∧ B p = none ∧ ¬ OA σ env p := by
  refine ⟨?_, ?_, fun z => ?_⟩
  · cases q : F.H0 p with
    | none => rfl
    | some o => exact absurd h (S.ent.th p (by rw [q]; exact fun z => by cases z))
  · cases q : B p with
    | none => rfl
    | some o =>
      rw [S.gr p o q] at h
      cases h
  · obtain ⟨_, _, vs, e⟩ := S.own0 z
    rw [h] at e
    cases e
/-- a new object that nothing leans on yet -/
theorem stp_new {p : Addr} {o : HO} (hp : H p = none) : Stp (fun _ => False) B H B (upd H p o) where
  bb := Gr.refl
  nw := fun _ e _ _ => e
  hh := fun a u e _ _ => by rw [upd_ne (ne_of_none e hp)]; exact e
  th := fun a e => by
    unfold upd
    split
    · exact fun q => by cases q
    · exact e
  tb := fun q ⟨ps, e, t⟩ => ⟨ps, by rw [upd_ne (ne_of_none e hp)]; exact e, t⟩
  bt := fun _ _ e => e
theorem gr_new {p : Addr} {o : HO} (g : Gr B H) (hp : H p = none) : Gr B (upd H p o) := fun a u e => by
  have := g a u e
  rw [upd_ne (ne_of_none this hp)]
  exact this
/-- .. that stays for ever -/
theorem stp_put {p : Addr} {o : HO} (g : Gr B H) (hp : H p = none) (ho : ∀ ps, o ≠ .tbl ps := by intro _ z; cases z) : Stp (fun _ => False) B H (upd B p o) (upd H p o) where
  bb := fun a u e => by
    rw [upd_ne (ne_of_none (g a u e) hp)]
    exact e
  nw := fun a e n _ => by
    by_cases z : a = p
    · rw [z] at n
      exact absurd hp n
    · rw [upd_ne z]
      exact e
  hh := (stp_new (B := B) hp).hh
  th := (stp_new (B := B) hp).th
  tb := (stp_new (B := B) hp).tb
  bt := fun a ps e => by
    by_cases z : a = p
    · rw [z, upd_same] at e
      exact absurd (Option.some.inj e) (ho ps)
    · rw [upd_ne z] at e
      exact e
theorem gr_put {p : Addr} {o : HO} (g : Gr B H) (hp : H p = none) : Gr (upd B p o) (upd H p o) := fun a u e => by
  by_cases z : a = p
  · rw [z, upd_same] at e ⊢
    exact e
  · rw [upd_ne z] at e ⊢
    exact g a u e
/-- a cell of one's own that stays as it is from now on -/
theorem stp_frz {l : Addr} {o : HO} (hb : B l = none) (hl : H l = some o) (ho : ∀ ps, o ≠ .tbl ps := by intro _ z; cases z) : Stp (fun a => a = l) B H (upd B l o) H where
  bb := fun a u e => by
    rw [upd_ne (fun z => by rw [z, hb] at e; cases e)]
    exact e
  nw := fun a e n z => by
    rw [upd_ne z]
    exact e
  hh := fun _ _ e _ _ => e
  th := fun _ e => e
  tb := fun _ e => e
  bt := fun a ps e => by
    by_cases z : a = l
    · rw [z, upd_same] at e
      exact absurd (Option.some.inj e) (ho ps)
    · rw [upd_ne z] at e
      exact e
theorem gr_frz {l : Addr} {o : HO} (g : Gr B H) (hl : H l = some o) : Gr (upd B l o) H := fun a u e => by
  by_cases z : a = l
  · rw [z, upd_same] at e
    rw [z, hl]
    exact e
  · rw [upd_ne z] at e
    exact g a u e
/-- what an expression's step leaves -/
structure Lft (F : Act) (σ : L2.St) (H B : Hp) (env : DEnv) (H' B' : Hp) (env' : DEnv) : Prop where
  sd : SD F σ H' B' env'
  stp : Stp (OA σ env) B H B' H'
  oa : ∀ a, OA σ env' a → OA σ env a
theorem Lft.refl (S : SD F σ H B env) : Lft F σ H B env H B env := ⟨S, Stp.refl, fun _ z => z⟩
theorem Lft.of (S : SD F σ H B env) (t : Stp (fun _ => False) B H B' H') (g : Gr B' H') : Lft F σ H B env H' B' env := ⟨S.step t g, t.mono fun _ z => z.elim, fun _ z => z⟩
theorem Lft.trans {H1 B1 H2 B2 : Hp} {env1 env2 : DEnv} (a : Lft F σ H B env H1 B1 env1) (b : Lft F σ H1 B1 env1 H2 B2 env2) : Lft F σ H B env H2 B2 env2 :=
  ⟨b.sd, a.stp.trans b.stp fun x z => .inl (a.oa x z), fun x z => a.oa x (b.oa x z)⟩
/-- a value ahead bears what it bore -/
theorem WOk.on {Hs H1 B1 H2 B2 : Hp} {env1 env2 : DEnv} {v : V} {o : Ow} (hoa : ∀ a, OA σ env1 a → Hs a ≠ none) (L : Lft F σ H1 B1 env1 H2 B2 env2) (h : WOk F Hs H1 B1 v o) : WOk F Hs H2 B2 v o := by
  cases o with
  | sh d => exact Rp.up L.stp.bb h
  | lst ds =>
    obtain ⟨l, vs, h1, h2, h3, h5, h6⟩ := h
    have n : ¬ OA σ env1 l := fun z => hoa l z h3
    exact ⟨l, vs, h1, L.stp.nw l h2 (by rw [h5]; exact fun q => by cases q) n, h3, L.stp.hh l _ h5 (fun ps q => by cases q) n, h6.up L.stp.bb⟩
theorem SD.oa_ne (S : SD F σ H B env) : ∀ a, OA σ env a → H a ≠ none := fun a z => by
  obtain ⟨_, _, vs, e⟩ := S.own0 z
  rw [e]
  exact fun q => by cases q
/-- a new list is frozen -/
theorem WOk.frz {v : V} {o : Ow} (S : SD F σ H B env) (L : Lft F σ H B env H' B' env') (h : WOk F H H' B' v o) : ∃ B2, Lft F σ H B env H' B2 env' ∧ Gr B' B2 ∧ Rp F.K B2 v (frz o) := by
  cases o with
  | sh d => exact ⟨B', L, Gr.refl, h⟩
  | lst ds =>
    obtain ⟨l, vs, rfl, h2, h3, h5, h6⟩ := h
    have t := stp_frz h2 h5
    have n : ¬ OA σ env' l := fun z => S.oa_ne l (L.oa l z) h3
    refine ⟨upd B' l (.lst vs), ⟨?_, L.stp.trans t fun a z => .inr (by rw [z]; exact h3), L.oa⟩, t.bb, .lst (.inl (.inl upd_same)) (h6.up t.bb)⟩
    refine ⟨L.sd.len, L.sd.ent.trans t fun a z => .inr (by rw [z]; exact (S.fresh h3).1), gr_frz L.sd.gr h5, fun i d e => ?_, fun i es e => ?_, L.sd.dist⟩
    · obtain ⟨w, e1, e2⟩ := L.sd.slot i d e
      exact ⟨w, e1, e2.up t.bb⟩
    · obtain ⟨l', vs', e1, e2, e3, e4, e5⟩ := L.sd.own i es e
      exact ⟨l', vs', e1, by rw [upd_ne (fun z => n ⟨i, es, e, by rw [← z]; exact e1⟩)]; exact e2, e3, e4, e5.up t.bb⟩
/-- a slot's own list is frozen -/
theorem SD.frz {i : Nat} {ds : List Dt} {l : Addr} (S : SD F σ H B env) (e : env[i]? = some (some (.lst ds))) (el : σ[i]? = some (some (.ref l))) :
    ∃ B', Lft F σ H B env H B' (env.set i (some (.sh (.lst ds)))) ∧ Rp F.K B' (.ref l) (.lst ds) := by
  obtain ⟨l', vs, h1, h2, h3, h4, h5⟩ := S.own i ds e
  rw [el] at h1
  cases h1
  have t := stp_frz h2 h4
  have r : Rp F.K (upd B l (.lst vs)) (.ref l) (.lst ds) := .lst (.inl (.inl upd_same)) (h5.up t.bb)
  have hi : i < env.length := (List.getElem?_eq_some_iff.mp e).1
  have other : ∀ (j : Nat) (o : Ow), (env.set i (some (.sh (.lst ds))))[j]? = some (some o) → j ≠ i → env[j]? = some (some o) := fun j o q n => by
    rw [List.getElem?_set_ne n.symm] at q
    exact q
  have self : (env.set i (some (.sh (.lst ds))))[i]? = some (some (.sh (.lst ds))) := by rw [List.getElem?_set_self hi]
  have lst_of : ∀ (j : Nat) (es : List Dt), (env.set i (some (.sh (.lst ds))))[j]? = some (some (.lst es)) → j ≠ i ∧ env[j]? = some (some (.lst es)) := fun j es q => by
    by_cases z : j = i
    · rw [z, self] at q
      cases q
    · exact ⟨z, other j _ q z⟩
  refine ⟨upd B l (.lst vs), ⟨⟨by rw [List.length_set]; exact S.len, S.ent.trans t fun a z => ?_, gr_frz S.gr h4, fun j d q => ?_, fun j es q => ?_, fun j k ds' es l' q1 q2 => S.dist j k ds' es l' (lst_of j _ q1).2 (lst_of k _ q2).2⟩,
    t.mono fun a z => ⟨i, ds, e, by rw [z]; exact el⟩, fun a ⟨j, es, q1, q2⟩ => ⟨j, es, (lst_of j _ q1).2, q2⟩⟩, r⟩
  · rw [z]
    exact h3.symm
  · by_cases z : j = i
    · rw [z, self] at q
      cases q
      exact ⟨_, by rw [z]; exact el, r⟩
    · obtain ⟨w, e1, e2⟩ := S.slot j d (other j _ q z)
      exact ⟨w, e1, e2.up t.bb⟩
  · obtain ⟨n, q'⟩ := lst_of j es q
    obtain ⟨l', vs', e1, e2, e3, e4, e5⟩ := S.own j es q'
    refine ⟨l', vs', e1, ?_, e3, e4, e5.up t.bb⟩
    rw [upd_ne (fun z => n (S.dist j i es ds l' q' e e1 (by rw [z]; exact el)))]
    exact e2
end
end DL
set_option Elab.async false
set_option linter.all false
set_option maxRecDepth 100000
/-! DL2: expressions as functions on the slots -/
namespace DL
open PySem PySem.Spec PyProof.Rows L2
abbrev Fe := DEnv → Option (Ow × DEnv)
abbrev Fp := DEnv → Option (Dt × DEnv)
abbrev Ft := DEnv → Option (Bool × DEnv)
abbrev Fa := DEnv → Option (List Ow × DEnv)
def pur (f : Fe) : Fp := fun env => match f env with
  | some (o, e) => some (frz o, e)
  | none => none
def ED (F : Act) (te : TE) (f : Fe) : Prop := ∀ (σ : L2.St) (H B : Hp) (env : DEnv) (o : Ow) (env' : DEnv), SD F σ H B env → f env = some (o, env') →
  ∀ Q : VK, (∀ (v : V) (H' B' : Hp), Lft F σ H B env H' B' env' → WOk F H H' B' v o → Q v H') → te σ H Q
def EP (F : Act) (te : TE) (f : Fp) : Prop := ∀ (σ : L2.St) (H B : Hp) (env : DEnv) (d : Dt) (env' : DEnv), SD F σ H B env → f env = some (d, env') →
  ∀ Q : VK, (∀ (v : V) (H' B' : Hp), Lft F σ H B env H' B' env' → Rp F.K B' v d → Q v H') → te σ H Q
def EB (F : Act) (tt : TT) (f : Ft) : Prop := ∀ (σ : L2.St) (H B : Hp) (env : DEnv) (b : Bool) (env' : DEnv), SD F σ H B env → f env = some (b, env') →
  ∀ Q : Bool → Hp → Prop, (∀ (H' B' : Hp), Lft F σ H B env H' B' env' → Q b H') → tt σ H Q
/-- arguments: each as it is -/
inductive WOks (F : Act) (Hs H B : Hp) : List V → List Ow → Prop
  | nil : WOks F Hs H B [] []
  | cons {v : V} {o : Ow} {vs : List V} {os : List Ow} : WOk F Hs H B v o → WOks F Hs H B vs os → WOks F Hs H B (v :: vs) (o :: os)
def EA (F : Act) (ta : TA) (f : Fa) : Prop := ∀ (σ : L2.St) (H B : Hp) (env : DEnv) (os : List Ow) (env' : DEnv), SD F σ H B env → f env = some (os, env') →
  ∀ Q : List V → Hp → Prop, (∀ (vs : List V) (H' B' : Hp), Lft F σ H B env H' B' env' → WOks F H H' B' vs os → Q vs H') → ta σ H Q
/-- arguments, frozen -/
def EQ (F : Act) (ta : TA) (f : DEnv → Option (List Dt × DEnv)) : Prop := ∀ (σ : L2.St) (H B : Hp) (env : DEnv) (ds : List Dt) (env' : DEnv), SD F σ H B env → f env = some (ds, env') →
  ∀ Q : List V → Hp → Prop, (∀ (vs : List V) (H' B' : Hp), Lft F σ H B env H' B' env' → Rps F.K B' vs ds → Q vs H') → ta σ H Q
section
variable {F : Act} {te ta tb : TE} {tt tu : TT} {f fa fb : Fe} {σ : L2.St} {H B : Hp} {env env' : DEnv}
theorem ED.pur (h : ED F te f) : EP F te (pur f) := by
  intro σ H B env d env' S e Q q
  unfold DL.pur at e
  cases hf : f env with
  | none => rw [hf] at e; cases e
  | some p =>
    obtain ⟨o, e'⟩ := p
    rw [hf] at e
    simp only [Option.some.injEq, Prod.mk.injEq] at e
    obtain ⟨rfl, rfl⟩ := e
    refine h σ H B env o e' S hf Q fun v H' B' L w => ?_
    obtain ⟨B2, L2, _, r⟩ := w.frz S L
    exact q v H' B2 L2 r
/-- data as it is, without a list for oneself -/
def shE (g : Fp) : Fe := fun env => match g env with
  | some (d, e) => some (.sh d, e)
  | none => none
theorem EP.ed {g : Fp} (h : EP F te g) : ED F te (shE g) := by
  intro σ H B env o env' S e Q q
  unfold shE at e
  cases hf : g env with
  | none => rw [hf] at e; cases e
  | some p =>
    obtain ⟨d, e'⟩ := p
    rw [hf] at e
    simp only [Option.some.injEq, Prod.mk.injEq] at e
    obtain ⟨rfl, rfl⟩ := e
    exact h σ H B env d e' S hf Q fun v H' B' L r => q v H' B' L r
/-! ### names, constants -/
def fVar (i : Nat) : Fe := fun env => match env[i]? with
  | some (some (.sh d)) => some (.sh d, env)
  | some (some (.lst ds)) => some (.sh (.lst ds), env.set i (some (.sh (.lst ds))))
  | _ => none
theorem ed_var (i : Nat) : ED F (tVar i) (fVar i) := by
  intro σ H B env o env' S e Q q
  unfold fVar at e
  split at e
  · rename_i d he
    simp only [Option.some.injEq, Prod.mk.injEq] at e
    obtain ⟨rfl, rfl⟩ := e
    obtain ⟨v, h1, h2⟩ := S.slot i d he
    exact ⟨v, h1, q v H B (Lft.refl S) h2⟩
  · rename_i ds he
    simp only [Option.some.injEq, Prod.mk.injEq] at e
    obtain ⟨rfl, rfl⟩ := e
    obtain ⟨l, vs, h1, _⟩ := S.own i ds he
    obtain ⟨B', L, r⟩ := S.frz he h1
    exact ⟨_, h1, q _ H B' L r⟩
  · cases e
/-- a constant -/
def fC (d : Dt) : Fe := fun env => some (.sh d, env)
theorem ed_c {v : V} {d : Dt} (r : ∀ H : Hp, Rp F.K H v d) : ED F (tC v) (fC d) := by
  intro σ H B env o env' S e Q q
  simp only [fC, Option.some.injEq, Prod.mk.injEq] at e
  obtain ⟨rfl, rfl⟩ := e
  exact q v H B (Lft.refl S) (r B)
/-! ### two operands, one operand -/
def fOp (g : Dt → Dt → Option Ow) (fa fb : Fe) : Fe := fun env => match pur fa env with
  | none => none
  | some (x, e1) => match pur fb e1 with
    | none => none
    | some (y, e2) => match g x y with
      | none => none
      | some o => some (o, e2)
/-- what an operation by values does to data -/
def RD2 (F : Act) (r : R2) (g : Dt → Dt → Option Ow) : Prop := ∀ (H B : Hp) (v w : V) (x y : Dt) (o : Ow), Gr B H → Rp F.K B v x → Rp F.K B w y → g x y = some o →
  ∀ Q : VK, (∀ (z : V) (H' B' : Hp), Stp (fun _ => False) B H B' H' → Gr B' H' → WOk F H H' B' z o → Q z H') → r v w H Q
theorem WOk.since {H H1 H2 B2 : Hp} {v : V} {o : Ow} (h : WOk F H1 H2 B2 v o) (t : ∀ a, H a ≠ none → H1 a ≠ none) : WOk F H H2 B2 v o := by
  cases o with
  | sh d => exact h
  | lst ds =>
    obtain ⟨l, vs, h1, h2, h3, h4⟩ := h
    refine ⟨l, vs, h1, h2, ?_, h4⟩
    cases q : H l with
    | none => rfl
    | some u => exact absurd h3 (t l (by rw [q]; exact fun z => by cases z))
theorem ed_op {r : R2} {g : Dt → Dt → Option Ow} (ha : ED F ta fa) (hb : ED F tb fb) (hr : RD2 F r g) : ED F (tOp r ta tb) (fOp g fa fb) := by
  intro σ H B env o env' S e Q q
  unfold fOp at e
  cases h1 : DL.pur fa env with
  | none => rw [h1] at e; cases e
  | some p1 =>
    obtain ⟨x, e1⟩ := p1
    rw [h1] at e
    dsimp only at e
    cases h2 : DL.pur fb e1 with
    | none => rw [h2] at e; cases e
    | some p2 =>
      obtain ⟨y, e2⟩ := p2
      rw [h2] at e
      dsimp only at e
      cases h3 : g x y with
      | none => rw [h3] at e; cases e
      | some o' =>
        rw [h3] at e
        simp only [Option.some.injEq, Prod.mk.injEq] at e
        obtain ⟨rfl, rfl⟩ := e
        refine ha.pur σ H B env x e1 S h1 _ fun v H1 B1 L1 r1 => ?_
        refine hb.pur σ H1 B1 e1 y e2 L1.sd h2 _ fun w H2 B2 L2 r2 => ?_
        refine hr H2 B2 v w x y o' L2.sd.gr (r1.up L2.stp.bb) r2 h3 Q fun z H3 B3 t g3 w3 => ?_
        exact q z H3 B3 ((L1.trans L2).trans (Lft.of L2.sd t g3)) (w3.since fun a n => L2.stp.th a (L1.stp.th a n))
def fUn (g : Dt → Option Ow) (fa : Fe) : Fe := fun env => match pur fa env with
  | none => none
  | some (x, e1) => match g x with
    | none => none
    | some o => some (o, e1)
def RD1 (F : Act) (r : V → Hp → VK → Prop) (g : Dt → Option Ow) : Prop := ∀ (H B : Hp) (v : V) (x : Dt) (o : Ow), Gr B H → Rp F.K B v x → g x = some o →
  ∀ Q : VK, (∀ (z : V) (H' B' : Hp), Stp (fun _ => False) B H B' H' → Gr B' H' → WOk F H H' B' z o → Q z H') → r v H Q
theorem ed_un {r : V → Hp → VK → Prop} {g : Dt → Option Ow} (ha : ED F ta fa) (hr : RD1 F r g) : ED F (tUn r ta) (fUn g fa) := by
  intro σ H B env o env' S e Q q
  unfold fUn at e
  cases h1 : DL.pur fa env with
  | none => rw [h1] at e; cases e
  | some p1 =>
    obtain ⟨x, e1⟩ := p1
    rw [h1] at e
    dsimp only at e
    cases h3 : g x with
    | none => rw [h3] at e; cases e
    | some o' =>
      rw [h3] at e
      simp only [Option.some.injEq, Prod.mk.injEq] at e
      obtain ⟨rfl, rfl⟩ := e
      refine ha.pur σ H B env x e1 S h1 _ fun v H1 B1 L1 r1 => ?_
      refine hr H1 B1 v x o' L1.sd.gr r1 h3 Q fun z H3 B3 t g3 w3 => ?_
      exact q z H3 B3 (L1.trans (Lft.of L1.sd t g3)) (w3.since L1.stp.th)
/-! ### tests -/
def fB (f : Fe) : Ft := fun env => match pur f env with
  | some (.bl b, e) => some (b, e)
  | _ => none
theorem fB_some {b : Bool} (h : fB f env = some (b, env')) : pur f env = some (.bl b, env') := by
  unfold fB at h
  split at h
  · rename_i b' e' he
    simp only [Option.some.injEq, Prod.mk.injEq] at h
    obtain ⟨rfl, rfl⟩ := h
    exact he
  · cases h
theorem eb_test (h : ED F te f) : EB F (tTest te) (fB f) := fun σ H B env b env' S e Q q =>
  h.pur σ H B env (.bl b) env' S (fB_some e) _ fun v H' B' L r => by
    cases r
    exact ⟨b, rfl, q H' B' L⟩
theorem eb_val (h : ED F te f) : EB F (tB te) (fB f) := fun σ H B env b env' S e Q q =>
  h.pur σ H B env (.bl b) env' S (fB_some e) _ fun v H' B' L r => by
    cases r
    exact ⟨b, rfl, q H' B' L⟩
def tNot' (f : Ft) : Ft := fun env => match f env with
  | some (b, e) => some (!b, e)
  | none => none
theorem eb_not {f : Ft} (h : EB F tt f) : EB F (tNot tt) (tNot' f) := by
  intro σ H B env b env' S e Q q
  unfold tNot' at e
  cases h1 : f env with
  | none => rw [h1] at e; cases e
  | some p =>
    obtain ⟨c, e1⟩ := p
    rw [h1] at e
    simp only [Option.some.injEq, Prod.mk.injEq] at e
    obtain ⟨rfl, rfl⟩ := e
    exact h σ H B env c e1 S h1 _ q
def fAnd (f g : Ft) : Ft := fun env => match f env with
  | none => none
  | some (c, e) => if c then g e else some (false, e)
def fOr (f g : Ft) : Ft := fun env => match f env with
  | none => none
  | some (c, e) => if c then some (true, e) else g e
theorem eb_and {f g : Ft} (h : EB F tt f) (k : EB F tu g) : EB F (tAnd tt tu) (fAnd f g) := by
  intro σ H B env b env' S e Q q
  unfold fAnd at e
  cases h1 : f env with
  | none => rw [h1] at e; cases e
  | some p =>
    obtain ⟨c, e1⟩ := p
    rw [h1] at e
    refine h σ H B env c e1 S h1 _ fun H1 B1 L1 => ?_
    cases c with
    | true => exact k σ H1 B1 e1 b env' L1.sd e Q fun H2 B2 L2 => q H2 B2 (L1.trans L2)
    | false =>
      simp only [Bool.false_eq_true, if_false, Option.some.injEq, Prod.mk.injEq] at e
      obtain ⟨rfl, rfl⟩ := e
      exact q H1 B1 L1
theorem eb_or {f g : Ft} (h : EB F tt f) (k : EB F tu g) : EB F (tOr tt tu) (fOr f g) := by
  intro σ H B env b env' S e Q q
  unfold fOr at e
  cases h1 : f env with
  | none => rw [h1] at e; cases e
  | some p =>
    obtain ⟨c, e1⟩ := p
    rw [h1] at e
    refine h σ H B env c e1 S h1 _ fun H1 B1 L1 => ?_
    cases c with
    | false => exact k σ H1 B1 e1 b env' L1.sd e Q fun H2 B2 L2 => q H2 B2 (L1.trans L2)
    | true =>
      simp only [if_true, Option.some.injEq, Prod.mk.injEq] at e
      obtain ⟨rfl, rfl⟩ := e
      exact q H1 B1 L1
/-- a test's answer as a value -/
def fV (f : Ft) : Fe := fun env => match f env with
  | some (b, e) => some (.sh (.bl b), e)
  | none => none
theorem ed_andV (ha : ED F ta fa) (hb : ED F tb fb) : ED F (tAndV ta tb) (fV (fAnd (fB fa) (fB fb))) := by
  intro σ H B env o env' S e Q q
  unfold fV at e
  cases h0 : fAnd (fB fa) (fB fb) env with
  | none => rw [h0] at e; cases e
  | some p =>
    obtain ⟨b, e0⟩ := p
    rw [h0] at e
    simp only [Option.some.injEq, Prod.mk.injEq] at e
    obtain ⟨rfl, rfl⟩ := e
    unfold fAnd at h0
    cases h1 : fB fa env with
    | none => rw [h1] at h0; cases h0
    | some p1 =>
      obtain ⟨c, e1⟩ := p1
      rw [h1] at h0
      refine ha.pur σ H B env (.bl c) e1 S (fB_some h1) _ fun v H1 B1 L1 r1 => ?_
      cases r1
      refine ⟨c, rfl, ?_⟩
      cases c with
      | true =>
        refine hb.pur σ H1 B1 e1 (.bl b) e0 L1.sd (fB_some h0) _ fun w H2 B2 L2 r2 => ?_
        exact q w H2 B2 (L1.trans L2) r2
      | false =>
        simp only [Bool.false_eq_true, if_false, Option.some.injEq, Prod.mk.injEq] at h0
        obtain ⟨rfl, rfl⟩ := h0
        exact q _ H1 B1 L1 (.bl false)
theorem ed_orV (ha : ED F ta fa) (hb : ED F tb fb) : ED F (tOrV ta tb) (fV (fOr (fB fa) (fB fb))) := by
  intro σ H B env o env' S e Q q
  unfold fV at e
  cases h0 : fOr (fB fa) (fB fb) env with
  | none => rw [h0] at e; cases e
  | some p =>
    obtain ⟨b, e0⟩ := p
    rw [h0] at e
    simp only [Option.some.injEq, Prod.mk.injEq] at e
    obtain ⟨rfl, rfl⟩ := e
    unfold fOr at h0
    cases h1 : fB fa env with
    | none => rw [h1] at h0; cases h0
    | some p1 =>
      obtain ⟨c, e1⟩ := p1
      rw [h1] at h0
      refine ha.pur σ H B env (.bl c) e1 S (fB_some h1) _ fun v H1 B1 L1 r1 => ?_
      cases r1
      refine ⟨c, rfl, ?_⟩
      cases c with
      | false =>
        refine hb.pur σ H1 B1 e1 (.bl b) e0 L1.sd (fB_some h0) _ fun w H2 B2 L2 r2 => ?_
        exact q w H2 B2 (L1.trans L2) r2
      | true =>
        simp only [if_true, Option.some.injEq, Prod.mk.injEq] at h0
        obtain ⟨rfl, rfl⟩ := h0
        exact q _ H1 B1 L1 (.bl true)
theorem ed_notV (ha : ED F ta fa) : ED F (tNotV ta) (fV (tNot' (fB fa))) := by
  intro σ H B env o env' S e Q q
  unfold fV tNot' at e
  cases h1 : fB fa env with
  | none => rw [h1] at e; cases e
  | some p1 =>
    obtain ⟨c, e1⟩ := p1
    rw [h1] at e
    simp only [Option.some.injEq, Prod.mk.injEq] at e
    obtain ⟨rfl, rfl⟩ := e
    refine ha.pur σ H B env (.bl c) e1 S (fB_some h1) _ fun v H1 B1 L1 r1 => ?_
    cases r1
    exact ⟨c, rfl, q _ H1 B1 L1 (.bl _)⟩
def fIf (c : Ft) (fa fb : Fe) : Fe := fun env => match c env with
  | none => none
  | some (b, e) => if b then fa e else fb e
theorem ed_if {c : Ft} (hc : EB F tt c) (ha : ED F ta fa) (hb : ED F tb fb) : ED F (tIf tt ta tb) (fIf c fa fb) := by
  intro σ H B env o env' S e Q q
  unfold fIf at e
  cases h1 : c env with
  | none => rw [h1] at e; cases e
  | some p =>
    obtain ⟨b, e1⟩ := p
    rw [h1] at e
    refine hc σ H B env b e1 S h1 _ fun H1 B1 L1 => ?_
    cases b with
    | true => exact ha σ H1 B1 e1 o env' L1.sd e Q fun v H2 B2 L2 w => q v H2 B2 (L1.trans L2) (w.since L1.stp.th)
    | false => exact hb σ H1 B1 e1 o env' L1.sd e Q fun v H2 B2 L2 w => q v H2 B2 (L1.trans L2) (w.since L1.stp.th)
/-! ### arguments -/
def aNil : Fa := fun env => some ([], env)
def aCons (f : Fe) (g : Fa) : Fa := fun env => match f env with
  | none => none
  | some (o, e) => match g e with
    | none => none
    | some (os, e') => some (o :: os, e')
theorem ea_nil : EA F tNil aNil := by
  intro σ H B env os env' S e Q q
  simp only [aNil, Option.some.injEq, Prod.mk.injEq] at e
  obtain ⟨rfl, rfl⟩ := e
  exact q [] H B (Lft.refl S) .nil
theorem WOks.since {H H1 H2 B2 : Hp} {vs : List V} {os : List Ow} (h : WOks F H1 H2 B2 vs os) (t : ∀ a, H a ≠ none → H1 a ≠ none) : WOks F H H2 B2 vs os := by
  induction h with
  | nil => exact .nil
  | cons w _ ih => exact .cons (w.since t) ih
theorem ea_cons {tr : TA} {g : Fa} (h : ED F te f) (k : EA F tr g) : EA F (tCons te tr) (aCons f g) := by
  intro σ H B env os env' S e Q q
  unfold aCons at e
  cases h1 : f env with
  | none => rw [h1] at e; cases e
  | some p1 =>
    obtain ⟨o, e1⟩ := p1
    rw [h1] at e
    dsimp only at e
    cases h2 : g e1 with
    | none => rw [h2] at e; cases e
    | some p2 =>
      obtain ⟨os', e2⟩ := p2
      rw [h2] at e
      simp only [Option.some.injEq, Prod.mk.injEq] at e
      obtain ⟨rfl, rfl⟩ := e
      refine h σ H B env o e1 S h1 _ fun v H1 B1 L1 w1 => ?_
      refine k σ H1 B1 e1 os' e2 L1.sd h2 _ fun vs H2 B2 L2 w2 => ?_
      exact q (v :: vs) H2 B2 (L1.trans L2) (.cons (w1.on (fun a z => S.oa_ne a (L1.oa a z)) L2) (w2.since L1.stp.th))
def purs (f : Fa) : DEnv → Option (List Dt × DEnv) := fun env => match f env with
  | some (os, e) => some (os.map frz, e)
  | none => none
theorem EA.purs {tr : TA} {g : Fa} (h : EA F tr g) (hnd : ∀ env os e, g env = some (os, e) → True) : True := trivial
def qNil : DEnv → Option (List Dt × DEnv) := fun env => some ([], env)
def qCons (f : Fe) (g : DEnv → Option (List Dt × DEnv)) : DEnv → Option (List Dt × DEnv) := fun env => match pur f env with
  | none => none
  | some (d, e) => match g e with
    | none => none
    | some (ds, e') => some (d :: ds, e')
theorem eq_nil : EQ F tNil qNil := by
  intro σ H B env os env' S e Q q
  simp only [qNil, Option.some.injEq, Prod.mk.injEq] at e
  obtain ⟨rfl, rfl⟩ := e
  exact q [] H B (Lft.refl S) .nil
theorem eq_cons {tr : TA} {g : DEnv → Option (List Dt × DEnv)} (h : ED F te f) (k : EQ F tr g) : EQ F (tCons te tr) (qCons f g) := by
  intro σ H B env os env' S e Q q
  unfold qCons at e
  cases h1 : DL.pur f env with
  | none => rw [h1] at e; cases e
  | some p1 =>
    obtain ⟨d, e1⟩ := p1
    rw [h1] at e
    dsimp only at e
    cases h2 : g e1 with
    | none => rw [h2] at e; cases e
    | some p2 =>
      obtain ⟨ds, e2⟩ := p2
      rw [h2] at e
      simp only [Option.some.injEq, Prod.mk.injEq] at e
      obtain ⟨rfl, rfl⟩ := e
      refine h.pur σ H B env d e1 S h1 _ fun v H1 B1 L1 w1 => ?_
      refine k σ H1 B1 e1 ds e2 L1.sd h2 _ fun vs H2 B2 L2 w2 => ?_
      exact q (v :: vs) H2 B2 (L1.trans L2) (.cons (w1.up L2.stp.bb) w2)
/-! ### displays -/
def fTup (g : DEnv → Option (List Dt × DEnv)) : Fe := fun env => match g env with
  | none => none
  | some (ds, e) => if Nat.ble ds.length 16777216 then some (.sh (.tup ds), e) else none
def fLst (g : DEnv → Option (List Dt × DEnv)) : Fe := fun env => match g env with
  | none => none
  | some (ds, e) => if Nat.ble ds.length 16777216 then some (.lst ds, e) else none
theorem szl {n : Nat} (h : Nat.ble n 16777216 = true) : n ≤ sizeLine := Nat.le_of_ble_eq_true h
theorem ed_tup {tr : TA} {g : DEnv → Option (List Dt × DEnv)} (h : EQ F tr g) : ED F (tTup tr) (fTup g) := by
  intro σ H B env o env' S e Q q
  unfold fTup at e
  cases h1 : g env with
  | none => rw [h1] at e; cases e
  | some p1 =>
    obtain ⟨ds, e1⟩ := p1
    rw [h1] at e
    dsimp only at e
    split at e
    · rename_i hz
      simp only [Option.some.injEq, Prod.mk.injEq] at e
      obtain ⟨rfl, rfl⟩ := e
      refine h σ H B env ds e1 S h1 _ fun vs H1 B1 L1 r => ⟨by rw [r.length]; exact szl hz, fun p hp => ?_⟩
      have t := stp_put (o := .tup vs) L1.sd.gr hp
      exact q _ _ _ (L1.trans (Lft.of L1.sd t (gr_put L1.sd.gr hp))) (Rp.tup (.inl (.inl upd_same)) (r.up t.bb))
    · cases e
theorem ed_lst {tr : TA} {g : DEnv → Option (List Dt × DEnv)} (h : EQ F tr g) : ED F (tLst tr) (fLst g) := by
  intro σ H B env o env' S e Q q
  unfold fLst at e
  cases h1 : g env with
  | none => rw [h1] at e; cases e
  | some p1 =>
    obtain ⟨ds, e1⟩ := p1
    rw [h1] at e
    dsimp only at e
    split at e
    · rename_i hz
      simp only [Option.some.injEq, Prod.mk.injEq] at e
      obtain ⟨rfl, rfl⟩ := e
      refine h σ H B env ds e1 S h1 _ fun vs H1 B1 L1 r => ⟨by rw [r.length]; exact szl hz, fun p hp => ?_⟩
      have t := stp_new (B := B1) (o := .lst vs) hp
      have hs : H p = none := by
        cases z : H p with
        | none => rfl
        | some u => exact absurd hp (L1.stp.th p (by rw [z]; exact fun q => by cases q))
      exact q _ _ _ (L1.trans (Lft.of L1.sd t (gr_new L1.sd.gr hp))) ⟨p, vs, rfl, (L1.sd.fresh hp).2.1, hs, upd_same, r⟩
    · cases e
/-! ### a new list from an operation by values: how the rules' own words meet ours -/
theorem wok_new {H B : Hp} {p : Addr} {vs : List V} {ds : List Dt} (g : Gr B H) (hp : H p = none) (r : Rps F.K B vs ds) :
    Stp (fun _ => False) B H B (upd H p (.lst vs)) ∧ Gr B (upd H p (.lst vs)) ∧ WOk F H (upd H p (.lst vs)) B (.ref p) (.lst ds) := by
  refine ⟨stp_new hp, gr_new g hp, p, vs, rfl, ?_, hp, upd_same, r⟩
  cases z : B p with
  | none => rfl
  | some u =>
    rw [g p u z] at hp
    cases hp
end
end DL
set_option Elab.async false
set_option linter.all false
set_option maxRecDepth 100000
/-! DL3: operators by data -/
namespace DL
open PySem PySem.Spec PyProof.Rows L2
section
variable {F : Act}
theorem RD2.or {r r' : R2} {g g' : Dt → Dt → Option Ow} (h : RD2 F r g) (h' : RD2 F r' g') :
    RD2 F (fun x y H Q => r x y H Q ∨ r' x y H Q) (fun x y => (g x y).or (g' x y)) := by
  intro H B v w x y o G rx ry e Q q
  dsimp only at e
  cases hg : g x y with
  | some o' =>
    rw [hg] at e
    have e' : o' = o := by simpa using e
    exact .inl (h H B v w x y o G rx ry (by rw [hg, e']) Q q)
  | none =>
    rw [hg] at e
    exact .inr (h' H B v w x y o G rx ry (by simpa using e) Q q)
theorem RD2.to {r : R2} {g g' : Dt → Dt → Option Ow} (h : RD2 F r g) (hg : ∀ x y o, g' x y = some o → g x y = some o) : RD2 F r g' :=
  fun H B v w x y o G rx ry e Q q => h H B v w x y o G rx ry (hg x y o e) Q q
/-- an operation that makes nothing -/
theorem RD2.flat {r : R2} {g : Dt → Dt → Option Ow} (h : ∀ (H B : Hp) (v w : V) (x y : Dt) (o : Ow), Gr B H → Rp F.K B v x → Rp F.K B w y → g x y = some o → ∃ z d, o = .sh d ∧ (∀ H : Hp, Rp F.K H z d) ∧ ∀ Q : VK, Q z H → r v w H Q) : RD2 F r g :=
  fun H B v w x y o G rx ry e Q q => by
    obtain ⟨z, d, rfl, rz, k⟩ := h H B v w x y o G rx ry e
    exact k Q (q z H B Stp.refl G (rz B))
theorem RD1.flat {r : V → Hp → VK → Prop} {g : Dt → Option Ow} (h : ∀ (H B : Hp) (v : V) (x : Dt) (o : Ow), Gr B H → Rp F.K B v x → g x = some o → ∃ z d, o = .sh d ∧ (∀ H : Hp, Rp F.K H z d) ∧ ∀ Q : VK, Q z H → r v H Q) : RD1 F r g :=
  fun H B v x o G rx e Q q => by
    obtain ⟨z, d, rfl, rz, k⟩ := h H B v x o G rx e
    exact k Q (q z H B Stp.refl G (rz B))
/-! ### ints -/
def gI (f : Int → Int → Int) : Dt → Dt → Option Ow
  | .int i, .int j => some (.sh (.int (f i j)))
  | _, _ => none
def gIC (c : Int → Int → Bool) (f : Int → Int → Int) : Dt → Dt → Option Ow
  | .int i, .int j => if c i j then some (.sh (.int (f i j))) else none
  | _, _ => none
def gIB (f : Int → Int → Bool) : Dt → Dt → Option Ow
  | .int i, .int j => some (.sh (.bl (f i j)))
  | _, _ => none
theorem rd_I {f : Int → Int → Int} : RD2 F (rI0 fun i j => .int (f i j)) (gI f) := .flat fun H B v w x y o G rx ry e => by
  unfold gI at e
  split at e
  · cases rx; cases ry
    simp only [Option.some.injEq] at e
    exact ⟨_, _, e.symm, fun _ => .int _, fun Q q => ⟨_, _, rfl, rfl, q⟩⟩
  · cases e
theorem rd_IC {C : Int → Int → Prop} {c : Int → Int → Bool} {f : Int → Int → Int} (hc : ∀ i j, c i j = true → C i j) : RD2 F (rI C fun i j => .int (f i j)) (gIC c f) := .flat fun H B v w x y o G rx ry e => by
  unfold gIC at e
  split at e
  · cases rx; cases ry
    split at e
    · rename_i hcc
      simp only [Option.some.injEq] at e
      exact ⟨_, _, e.symm, fun _ => .int _, fun Q q => ⟨_, _, rfl, rfl, hc _ _ hcc, q⟩⟩
    · cases e
  · cases e
theorem rd_IB {f : Int → Int → Bool} : RD2 F (rI0 fun i j => .bl (f i j)) (gIB f) := .flat fun H B v w x y o G rx ry e => by
  unfold gIB at e
  split at e
  · cases rx; cases ry
    simp only [Option.some.injEq] at e
    exact ⟨_, _, e.symm, fun _ => .bl _, fun Q q => ⟨_, _, rfl, rfl, q⟩⟩
  · cases e
/-! ### + -/
def rAddStr : R2 := fun x y H Q => ∃ i j, x = .str i ∧ y = .str j ∧ i.length + j.length ≤ sizeLine ∧ Q (.str (i ++ j)) H
def gAddStr : Dt → Dt → Option Ow
  | .str s, .str t => if Nat.ble (s.length + t.length) 16777216 then some (.sh (.str (s ++ t))) else none
  | _, _ => none
theorem str_app (s t : List Nat) : ((⟨s.toArray⟩ : Str) ++ ⟨t.toArray⟩) = ⟨(s ++ t).toArray⟩ := by
  show Str.mk (s.toArray ++ t.toArray) = _
  simp
theorem str_len (s : List Nat) : (⟨s.toArray⟩ : Str).length = s.length := by
  show s.toArray.size = _
  simp
theorem rd_addStr : RD2 F rAddStr gAddStr := .flat fun H B v w x y o G rx ry e => by
  unfold gAddStr at e
  split at e
  · rename_i s t
    cases rx; cases ry
    split at e
    · rename_i hz
      simp only [Option.some.injEq] at e
      exact ⟨_, _, e.symm, fun _ => .str _, fun Q q => ⟨_, _, rfl, rfl, by rw [str_len, str_len]; exact szl hz, by rw [str_app]; exact q⟩⟩
    · cases e
  · cases e
/-- xs + ys, any two lists -/
def rCatS (K : PySem.W.Frag) : R2 := fun x y H Q => ∃ l b xs zs, x = V.ref l ∧ y = V.ref b ∧ SqL K H l xs ∧ SqL K H b zs ∧ xs.length + zs.length ≤ sizeLine ∧ ∀ p, H p = none → Q (.ref p) (upd H p (.lst (xs ++ zs)))
theorem op_catS {X : Cx} : OpR X (binaryOp .Add) (rCatS X.K) := by
  intro pins s σ H x y v u Q I rx ry h
  obtain ⟨l, b, xs, zs, rfl, rfl, hl, hb, hz, q⟩ := h
  cases rx
  cases ry
  obtain ⟨i1, r1, ⟨⟨c1, d1, t1, s1⟩, n1, e1, hc1, hd1, ht1⟩, _⟩ := I.list hl
  obtain ⟨i2, r2, ⟨⟨c2, d2, t2, s2⟩, n2, e2, hc2, hd2, ht2⟩, _⟩ := I.list hb
  simp only at hc1 hd1 ht1 hc2 hd2 ht2
  subst hc1 hd1 ht1 hc2 hd2 ht2
  have hl1 := r1.length
  have hl2 := r2.length
  have hsz : i1.toArray.size + i2.toArray.size ≤ sizeLine := by
    rw [List.size_toArray, List.size_toArray, ← hl1, ← hl2]
    exact hz
  refine concat_meets ⟨_, e1, rfl⟩ ⟨_, e2, rfl⟩ noFill_list_add seq_list_add PySem.F.slot_list_add PySem.F.entry_list_add (PySem.F.args_list_add_2 _ _) (list_addW l b i1.toArray i2.toArray n1 n2 _ _ s1 s2 hsz) ⟨e1, e2, ?_⟩
  have ea : i1.toArray ++ i2.toArray = (i1 ++ i2).toArray := by simp
  rw [ea]
  exact ⟨.ref _, _, I.lnew (t' := s.toks) (r1.append r2) (by rw [List.length_append]; exact hz), rfl, q _ I.fresh⟩
def gCat : Dt → Dt → Option Ow
  | .lst xs, .lst ys => if Nat.ble (xs.length + ys.length) 16777216 then some (.lst (xs ++ ys)) else none
  | _, _ => none
theorem rd_cat : RD2 F (rCatS F.K) gCat := fun H B v w x y o G rx ry e Q q => by
  unfold gCat at e
  split at e
  · rename_i xs ys
    split at e
    · rename_i hz
      simp only [Option.some.injEq] at e
      subst e
      cases rx with
      | lst h1 r1 =>
        cases ry with
        | lst h2 r2 =>
          refine ⟨_, _, _, _, rfl, rfl, G.sqL h1, G.sqL h2, by rw [r1.length, r2.length]; exact szl hz, fun p hp => ?_⟩
          obtain ⟨t, g2, w2⟩ := wok_new (F := F) G hp (r1.app r2)
          exact q _ _ _ t g2 w2
    · cases e
  · cases e
def gCatT : Dt → Dt → Option Ow
  | .tup xs, .tup ys => if Nat.ble (xs.length + ys.length) 16777216 then some (.sh (.tup (xs ++ ys))) else none
  | _, _ => none
theorem rd_catT : RD2 F (rCatA F.K) gCatT := fun H B v w x y o G rx ry e Q q => by
  unfold gCatT at e
  split at e
  · rename_i xs ys
    split at e
    · rename_i hz
      simp only [Option.some.injEq] at e
      subst e
      cases rx with
      | tup h1 r1 =>
        cases ry with
        | tup h2 r2 =>
          rename_i a xs' b ys'
          have l1 := r1.length
          have l2 := r2.length
          refine ⟨_, _, _, _, rfl, rfl, G.sqT h1, G.sqT h2, by rw [l1, l2]; exact szl hz, fun hx => ?_, fun hx hy => ?_, fun _ _ p hp => ?_⟩
          · subst hx
            have e0 : xs = [] := List.eq_nil_of_length_eq_zero (by rw [← l1]; rfl)
            subst e0
            exact q _ H B Stp.refl G (Rp.tup h2 r2)
          · subst hy
            have e0 : ys = [] := List.eq_nil_of_length_eq_zero (by rw [← l2]; rfl)
            subst e0
            exact q _ H B Stp.refl G (by rw [List.append_nil]; exact Rp.tup h1 r1)
          · have t := stp_put (o := .tup (xs' ++ ys')) G hp
            exact q _ _ _ t (gr_put G hp) (Rp.tup (.inl (.inl upd_same)) ((r1.app r2).up t.bb))
    · cases e
  · cases e
def rAddU (K : PySem.W.Frag) : R2 := fun x y H Q => rI0 (fun i j => .int (i + j)) x y H Q ∨ (rAddStr x y H Q ∨ (rCatS K x y H Q ∨ rCatA K x y H Q))
theorem op_addU {X : Cx} : OpR X (binaryOp .Add) (rAddU X.K) := op_add.or (op_add_str.or (op_catS.or op_catA))
def gAdd : Dt → Dt → Option Ow
  | .int i, .int j => some (.sh (.int (i + j)))
  | .str s, .str t => if Nat.ble (s.length + t.length) 16777216 then some (.sh (.str (s ++ t))) else none
  | .lst xs, .lst ys => if Nat.ble (xs.length + ys.length) 16777216 then some (.lst (xs ++ ys)) else none
  | .tup xs, .tup ys => if Nat.ble (xs.length + ys.length) 16777216 then some (.sh (.tup (xs ++ ys))) else none
  | _, _ => none
theorem rd_addU : RD2 F (rAddU F.K) gAdd := (rd_I.or (rd_addStr.or (rd_cat.or rd_catT))).to fun x y o e => by
  cases x <;> cases y <;> first
    | (simp only [gAdd] at e; cases e; done)
    | (simp only [gAdd] at e; simp only [gI, gAddStr, gCat, gCatT, Option.or_none, Option.none_or, Option.some_or]; exact e)
/-! ### * -/
/-- an int is small: never reckoned by ones -/
def ibd (b : Nat) : Int → Bool
  | .ofNat n => Nat.ble n b
  | .negSucc n => Nat.ble n b
theorem ibd_ok {b : Nat} {j : Int} (h : ibd b j = true) : -((b : Int) + 1) ≤ j ∧ j ≤ (b : Int) := by
  cases j with
  | ofNat n =>
    have := Nat.le_of_ble_eq_true (show Nat.ble n b = true from h)
    simp only [Int.ofNat_eq_natCast]
    omega
  | negSucc n =>
    have := Nat.le_of_ble_eq_true (show Nat.ble n b = true from h)
    omega
theorem ibd_nat {b n : Nat} (h : n ≤ b) : ibd b (n : Int) = true := Nat.ble_eq_true_of_le h
theorem ibd_of {b : Nat} {j : Int} (h : -(b : Int) ≤ j ∧ j ≤ (b : Int)) : ibd b j = true := by
  cases j with
  | ofNat n => exact Nat.ble_eq_true_of_le (by have := h.2; simp only [Int.ofNat_eq_natCast] at this; omega)
  | negSucc n => exact Nat.ble_eq_true_of_le (by have := h.1; omega)
def mulOk (i j : Int) : Bool := ibd 18446744073709551614 i || ibd 18446744073709551614 j
theorem mulOk_ok (i j : Int) (h : mulOk i j = true) : CMul i j := by
  unfold mulOk at h
  rw [Bool.or_eq_true] at h
  have e : (2 : Int) ^ 64 = 18446744073709551616 := by decide
  show (-(2 ^ 64) < i ∧ i < 2 ^ 64) ∨ (-(2 ^ 64) < j ∧ j < 2 ^ 64)
  rw [e]
  rcases h with h | h
  · have := ibd_ok h
    omega
  · have := ibd_ok h
    omega
/-- text * int -/
def rMulS : R2 := fun x y H Q => ∃ (z : Str) (k : Int), x = .str z ∧ y = .int k ∧ 0 ≤ k ∧ k < 2 ^ 24 ∧ z.length * k.toNat ≤ sizeLine ∧ Q (.str ⟨(List.replicate k.toNat z.cps.toList).flatten.toArray⟩) H
theorem foldl_rep' (a : List Nat) : ∀ (n : Nat) (acc : List Nat), (List.replicate n a.toArray).foldl (· ++ ·) acc.toArray = (acc ++ (List.replicate n a).flatten).toArray
  | 0, acc => by simp
  | n + 1, acc => by
    rw [List.replicate_succ, List.foldl_cons, List.replicate_succ, List.flatten_cons]
    have e : acc.toArray ++ a.toArray = (acc ++ a).toArray := by simp
    rw [e, foldl_rep' a n (acc ++ a), List.append_assoc]
theorem op_mulS {X : Cx} : OpR X (binaryOp .Mult) rMulS := by
  intro pins s σ H x y v u Q I rx ry h
  obtain ⟨z, k, rfl, rfl, h0, h1, hz, q⟩ := h
  obtain ⟨t, rfl⟩ := rx
  obtain ⟨t', rfl⟩ := ry
  have hk : z.length * k.toNat ≤ 16777216 := hz
  refine PySem.P.mul_str (by rw [decide_eq_false (by omega), decide_eq_false (by omega)] <;> rfl) (fun h2 _ => ?_) (fun h2 _ => ?_) ?_
  · have hk1 : (1 : Int) ≤ k := by omega
    have : k * (z.length : Int) ≤ 16777216 := by
      have e : k = ((k.toNat : Nat) : Int) := (Int.toNat_of_nonneg h0).symm
      have h9 : ((z.length * k.toNat : Nat) : Int) ≤ ((16777216 : Nat) : Int) := Int.ofNat_le.mpr hk
      rw [Int.natCast_mul] at h9
      rw [e, Int.mul_comm]
      exact h9
    have h3 : (z.length : Int) ≤ 16777216 := by
      have : (z.length : Int) ≤ k * (z.length : Int) := by
        have := Int.mul_le_mul_of_nonneg_right hk1 (Int.natCast_nonneg z.length)
        omega
      omega
    have h5 : (16777216 : Int) ≤ (2 ^ 63 - 1) / k := by
      rw [Int.le_ediv_iff_mul_le (by omega)]
      have h6 : (16777216 : Int) * k ≤ 16777216 * 16777216 := Int.mul_le_mul_of_nonneg_left (by omega) (by omega)
      exact Int.le_trans h6 (by decide)
    omega
  · have e : ¬ (z.length * k.toNat > 16777216) := by omega
    simp [Builtin.Str.tooLong]
    exact hk
  · by_cases h2 : k < 1
    · rw [if_pos h2]
      have e : k.toNat = 0 := by omega
      rw [e] at q
      refine ⟨by decide, ?_⟩
      exact ⟨.str Str.empty, H, I.tok _, ⟨_, rfl⟩, q⟩
    · rw [if_neg h2]
      have zl : z.length = z.cps.toList.length := by
        show z.cps.size = _
        simp
      split
      · rename_i h3
        have h4 : k = 1 ∨ z.length = 0 := by
          simp only [Bool.or_eq_true, beq_iff_eq] at h3
          exact h3
        have e : (List.replicate k.toNat z.cps.toList).flatten = z.cps.toList := by
          rcases h4 with h4 | h4
          · rw [h4]
            simp
          · have : z.cps.toList = [] := List.eq_nil_of_length_eq_zero (by rw [← zl]; exact h4)
            rw [this]
            simp
        rw [e] at q
        exact ⟨.str z, H, I, ⟨_, rfl⟩, by simpa using q⟩
      · have e := foldl_rep' z.cps.toList k.toNat []
        simp only [List.nil_append, Array.toArray_toList] at e
        rw [e]
        refine ⟨?_, ?_⟩
        · show (List.replicate k.toNat z.cps.toList).flatten.toArray.size ≤ _
          rw [List.size_toArray, List.length_flatten, List.map_replicate, List.sum_replicate_nat, Nat.mul_comm, ← zl]
          exact hk
        · exact ⟨.str _, H, I.tok _, ⟨_, rfl⟩, q⟩
end
end DL
set_option Elab.async false
set_option linter.all false
set_option maxRecDepth 100000
/-! DL4: more operators by data, comparisons, subscripts, slices, built-in functions -/
namespace DL
open PySem PySem.Spec PyProof.Rows L2
section
variable {F : Act}
/-- 0 ≤ k < 2 ^ 24 -/
def k24 : Int → Bool
  | .ofNat n => Nat.ble n 16777215
  | .negSucc _ => false
theorem k24_ok {k : Int} (h : k24 k = true) : 0 ≤ k ∧ k < 16777216 := by
  cases k with
  | ofNat n =>
    have := Nat.le_of_ble_eq_true (show Nat.ble n 16777215 = true from h)
    simp only [Int.ofNat_eq_natCast]
    omega
  | negSucc n => cases h
def gMulS : Dt → Dt → Option Ow
  | .str s, .int k => if k24 k && Nat.ble (s.length * k.toNat) 16777216 then some (.sh (.str (List.replicate k.toNat s).flatten)) else none
  | _, _ => none
theorem rd_mulS : RD2 F rMulS gMulS := .flat fun H B v w x y o G rx ry e => by
  unfold gMulS at e
  split at e
  · rename_i s k
    cases rx; cases ry
    split at e
    · rename_i hz
      rw [Bool.and_eq_true] at hz
      obtain ⟨h01, h2⟩ := hz
      obtain ⟨h0, h1⟩ := k24_ok h01
      simp only [Option.some.injEq] at e
      refine ⟨_, _, e.symm, fun _ => .str _, fun Q q => ⟨_, _, rfl, rfl, h0, by omega, by rw [str_len]; exact szl h2, ?_⟩⟩
      simpa using q
    · cases e
  · cases e
def rMulU : R2 := fun x y H Q => rI CMul (fun i j => .int (i * j)) x y H Q ∨ rMulS x y H Q
theorem op_mulU {X : Cx} : OpR X (binaryOp .Mult) rMulU := op_mul.or op_mulS
def gMul : Dt → Dt → Option Ow := fun x y => (gIC mulOk (· * ·) x y).or (gMulS x y)
theorem rd_mulU : RD2 F rMulU gMul := (rd_IC mulOk_ok).or rd_mulS
/-! ### a new list times an int -/
def fRep (fa fb : Fe) : Fe := fun env => match fa env with
  | some (.lst ds, e1) => match pur fb e1 with
    | some (.int k, e2) => if k24 k && Nat.ble (ds.length * k.toNat) 16777216 then some (.lst (List.replicate k.toNat ds).flatten, e2) else none
    | _ => none
  | _ => none
theorem ed_rep {ta tb : TE} {fa fb : Fe} (ha : ED F ta fa) (hb : ED F tb fb) : ED F (tOp rRep ta tb) (fRep fa fb) := by
  intro σ H B env o env' S e Q q
  unfold fRep at e
  split at e
  · rename_i ds e1 h1
    split at e
    · rename_i k e2 h2
      split at e
      · rename_i hz
        rw [Bool.and_eq_true] at hz
        obtain ⟨h01, hz⟩ := hz
        obtain ⟨h0, hk⟩ := k24_ok h01
        simp only [Option.some.injEq, Prod.mk.injEq] at e
        obtain ⟨rfl, rfl⟩ := e
        refine ha σ H B env (.lst ds) e1 S h1 _ fun v H1 B1 L1 w1 => ?_
        refine hb.pur σ H1 B1 e1 (.int k) e2 L1.sd h2 _ fun w H2 B2 L2 r2 => ?_
        cases r2
        have w2 := w1.on (fun a z => S.oa_ne a (L1.oa a z)) L2
        obtain ⟨l, vs, rfl, n1, n2, n3, r⟩ := w2
        refine ⟨l, k, vs, rfl, rfl, n3, by omega, by omega, by rw [r.length]; exact szl hz, fun p hp => ?_⟩
        obtain ⟨t, g2, w3⟩ := wok_new (F := F) L2.sd.gr hp (r.rep k.toNat)
        exact q _ _ _ ((L1.trans L2).trans (Lft.of L2.sd t g2)) (w3.since fun a n => L2.stp.th a (L1.stp.th a n))
      · cases e
    · cases e
  · cases e
/-! ### // % ** -/
def divOk (_ j : Int) : Bool := decide (0 < j) && decide (j < 1073741824)
theorem divOk_ok (i j : Int) (h : divOk i j = true) : CDiv i j := by
  unfold divOk at h
  simp only [Bool.and_eq_true, decide_eq_true_eq] at h
  exact h
def gDiv : Dt → Dt → Option Ow := gIC divOk (· / ·)
theorem rd_div : RD2 F (rI CDiv fun i j => .int (i / j)) gDiv := rd_IC divOk_ok
def modOk (_ j : Int) : Bool := decide (0 < j)
def gMod : Dt → Dt → Option Ow := gIC modOk (· % ·)
theorem rd_mod : RD2 F (rI (fun _ j => 0 < j) fun i j => .int (i % j)) gMod := rd_IC fun _ _ h => of_decide_eq_true h
def powOk (i j : Int) : Bool := (match j with | .ofNat n => Nat.ble n 1000000 | .negSucc _ => false) && Nat.ble i.natAbs 18446744073709551615
theorem powOk_ok (i j : Int) (h : powOk i j = true) : CPow i j := by
  unfold powOk at h
  rw [Bool.and_eq_true] at h
  obtain ⟨h1, h2⟩ := h
  have h3 := Nat.le_of_ble_eq_true h2
  have e : (2 : Nat) ^ 64 = 18446744073709551616 := by decide
  cases j with
  | ofNat n =>
    have := Nat.le_of_ble_eq_true (show Nat.ble n 1000000 = true from h1)
    refine ⟨by simp only [Int.ofNat_eq_natCast]; omega, by simp only [Int.ofNat_eq_natCast]; omega, ?_⟩
    rw [e]
    omega
  | negSucc n => cases h1
def gPow : Dt → Dt → Option Ow := gIC powOk fun i j => i ^ j.toNat
theorem rd_pow : RD2 F (rI CPow fun i j => .int (i ^ j.toNat)) gPow := rd_IC powOk_ok
def gSub : Dt → Dt → Option Ow := gI (· - ·)
theorem rd_sub : RD2 F (rI0 fun i j => .int (i - j)) gSub := rd_I
def gNeg : Dt → Option Ow
  | .int i => some (.sh (.int (-i)))
  | _ => none
theorem rd_neg : RD1 F (rU fun i => .int (-i)) gNeg := .flat fun H B v x o G rx e => by
  unfold gNeg at e
  split at e
  · cases rx
    simp only [Option.some.injEq] at e
    exact ⟨_, _, e.symm, fun _ => .int _, fun Q q => ⟨_, rfl, q⟩⟩
  · cases e
/-! ### comparisons -/
def gEq : Dt → Dt → Option Ow := fun x y => if x.shp && y.shp then some (.sh (.bl (eqD x y))) else none
def gNe : Dt → Dt → Option Ow := fun x y => if x.shp && y.shp then some (.sh (.bl (!eqD x y))) else none
theorem rd_eq : RD2 F (rEqD F.K) gEq := .flat fun H B v w x y o G rx ry e => by
  unfold gEq at e
  split at e
  · rename_i hs
    rw [Bool.and_eq_true] at hs
    simp only [Option.some.injEq] at e
    exact ⟨.bl _, _, e.symm, fun _ => .bl _, fun Q q => ⟨_, _, (rx.up G).dp, (ry.up G).dp, shp_ok hs.1, shp_ok hs.2, by rw [eqD_py]; exact q⟩⟩
  · cases e
theorem rd_ne : RD2 F (rNeD F.K) gNe := .flat fun H B v w x y o G rx ry e => by
  unfold gNe at e
  split at e
  · rename_i hs
    rw [Bool.and_eq_true] at hs
    simp only [Option.some.injEq] at e
    exact ⟨.bl _, _, e.symm, fun _ => .bl _, fun Q q => ⟨_, _, (rx.up G).dp, (ry.up G).dp, shp_ok hs.1, shp_ok hs.2, by rw [eqD_py]; exact q⟩⟩
  · cases e
def gLt : Dt → Dt → Option Ow := gIB fun i j => decide (i < j)
def gLe : Dt → Dt → Option Ow := gIB fun i j => decide (i ≤ j)
def gGt : Dt → Dt → Option Ow := gIB fun i j => decide (j < i)
def gGe : Dt → Dt → Option Ow := gIB fun i j => decide (j ≤ i)
theorem rd_lt : RD2 F (rI0 fun i j => .bl (decide (i < j))) gLt := rd_IB
theorem rd_le : RD2 F (rI0 fun i j => .bl (decide (i ≤ j))) gLe := rd_IB
theorem rd_gt : RD2 F (rI0 fun i j => .bl (decide (j < i))) gGt := rd_IB
theorem rd_ge : RD2 F (rI0 fun i j => .bl (decide (j ≤ i))) gGe := rd_IB
/-! ### in -/
def rInT (K : PySem.W.Frag) (neg : Bool) : R2 := fun x y H Q => ∃ d ds, Dp K H x d ∧ Dp K H y (.tuple ds) ∧ SeqAt.shaped d = true ∧ SeqAt.shaped (.tuple ds) = true ∧ Q (.bl (if neg then !ds.any fun z => PyData.eqv z d else ds.any fun z => PyData.eqv z d)) H
theorem shaped_lt {ds : List PyData} (h : SeqAt.shaped (.tuple ds) = true) : SeqAt.shaped (.list ds) = true := h
theorem op_inT {X : Cx} (hu : X.A.units + 65 < cLine) : OpR X (compareOp .In) (rInT X.K false) := by
  intro pins s σ H x y v u Q I rx ry h
  obtain ⟨d, ds, hd, he, sd, se, q⟩ := h
  obtain ⟨as, r1⟩ := Dp.reads I d x v hd rx
  obtain ⟨bs, r2⟩ := Dp.reads I (.tuple ds) y u he ry
  exact SeqAt.in_tuple_reads r2 r1 (SeqAt.canLay_of_shaped se) (SeqAt.canLay_of_shaped sd) (room_in_shaped sd hu) ⟨.bl _, H, I, rfl, q⟩
theorem op_notInT {X : Cx} (hu : X.A.units + 65 < cLine) : OpR X (compareOp .NotIn) (rInT X.K true) := by
  intro pins s σ H x y v u Q I rx ry h
  obtain ⟨d, ds, hd, he, sd, se, q⟩ := h
  obtain ⟨as, r1⟩ := Dp.reads I d x v hd rx
  obtain ⟨bs, r2⟩ := Dp.reads I (.tuple ds) y u he ry
  exact SeqAt.notIn_tuple_reads r2 r1 (SeqAt.canLay_of_shaped se) (SeqAt.canLay_of_shaped sd) (room_in_shaped sd hu) ⟨.bl _, H, I, rfl, q⟩
def rInU (K : PySem.W.Frag) : R2 := fun x y H Q => (∃ (c : Nat) (z : Str), x = .str ⟨#[c]⟩ ∧ y = .str z ∧ Q (.bl (decide (c ∈ z.cps.toList))) H) ∨ (rInD K x y H Q ∨ rInT K false x y H Q)
def rNiU (K : PySem.W.Frag) : R2 := fun x y H Q => (∃ (c : Nat) (z : Str), x = .str ⟨#[c]⟩ ∧ y = .str z ∧ Q (.bl (!decide (c ∈ z.cps.toList))) H) ∨ (rNotInD K x y H Q ∨ rInT K true x y H Q)
theorem op_inU {X : Cx} (hu : X.A.units + 65 < cLine) : OpR X (compareOp .In) (rInU X.K) := op_in_sign.or ((op_inD hu).or (op_inT hu))
theorem op_niU {X : Cx} (hu : X.A.units + 65 < cLine) : OpR X (compareOp .NotIn) (rNiU X.K) := op_notIn_sign.or ((op_notInD hu).or (op_notInT hu))
def inB : Dt → Dt → Option Bool
  | .str [c], .str t => some (t.contains c)
  | x, .lst ds => if x.shp && (Dt.lst ds).shp then some (ds.any fun z => eqD z x) else none
  | x, .tup ds => if x.shp && (Dt.tup ds).shp then some (ds.any fun z => eqD z x) else none
  | _, _ => none
def gIn : Dt → Dt → Option Ow := fun x y => match inB x y with
  | some b => some (.sh (.bl b))
  | none => none
def gNi : Dt → Dt → Option Ow := fun x y => match inB x y with
  | some b => some (.sh (.bl (!b)))
  | none => none
theorem in_core {K : PySem.W.Frag} {H B : Hp} {v w : V} {x y : Dt} {b : Bool} (G : Gr B H) (rx : Rp K B v x) (ry : Rp K B w y) (e : inB x y = some b) :
    (∃ (c : Nat) (z : Str), v = .str ⟨#[c]⟩ ∧ w = .str z ∧ b = decide (c ∈ z.cps.toList)) ∨
    (∃ d ds, Dp K H v d ∧ Dp K H w (.list ds) ∧ SeqAt.shaped d = true ∧ SeqAt.shaped (.list ds) = true ∧ b = ds.any fun z => PyData.eqv z d) ∨
    (∃ d ds, Dp K H v d ∧ Dp K H w (.tuple ds) ∧ SeqAt.shaped d = true ∧ SeqAt.shaped (.tuple ds) = true ∧ b = ds.any fun z => PyData.eqv z d) := by
  unfold inB at e
  split at e
  · rename_i c t
    cases rx; cases ry
    simp only [Option.some.injEq] at e
    refine .inl ⟨c, ⟨t.toArray⟩, rfl, rfl, ?_⟩
    rw [← e, Bool.eq_iff_iff]
    simp
  · rename_i ds
    split at e
    · rename_i hs
      rw [Bool.and_eq_true] at hs
      simp only [Option.some.injEq] at e
      exact .inr (.inl ⟨x.py, pys ds, (rx.up G).dp, (ry.up G).dp, shp_ok hs.1, shp_ok (d := .lst ds) hs.2, by rw [← e, any_py]⟩)
    · cases e
  · rename_i ds
    split at e
    · rename_i hs
      rw [Bool.and_eq_true] at hs
      simp only [Option.some.injEq] at e
      exact .inr (.inr ⟨x.py, pys ds, (rx.up G).dp, (ry.up G).dp, shp_ok hs.1, shp_ok (d := .tup ds) hs.2, by rw [← e, any_py]⟩)
    · cases e
  · cases e
theorem rd_in : RD2 F (rInU F.K) gIn := .flat fun H B v w x y o G rx ry e => by
  unfold gIn at e
  split at e
  · rename_i b hb
    simp only [Option.some.injEq] at e
    refine ⟨.bl b, _, e.symm, fun _ => .bl _, fun Q q => ?_⟩
    rcases in_core G rx ry hb with ⟨c, z, h1, h2, h3⟩ | ⟨d, ds, h1, h2, h3, h4, h5⟩ | ⟨d, ds, h1, h2, h3, h4, h5⟩
    · exact .inl ⟨c, z, h1, h2, by rw [← h3]; exact q⟩
    · exact .inr (.inl ⟨d, ds, h1, h2, h3, h4, by rw [← h5]; exact q⟩)
    · exact .inr (.inr ⟨d, ds, h1, h2, h3, h4, by rw [← h5]; exact q⟩)
  · cases e
theorem rd_ni : RD2 F (rNiU F.K) gNi := .flat fun H B v w x y o G rx ry e => by
  unfold gNi at e
  split at e
  · rename_i b hb
    simp only [Option.some.injEq] at e
    refine ⟨.bl (!b), _, e.symm, fun _ => .bl _, fun Q q => ?_⟩
    rcases in_core G rx ry hb with ⟨c, z, h1, h2, h3⟩ | ⟨d, ds, h1, h2, h3, h4, h5⟩ | ⟨d, ds, h1, h2, h3, h4, h5⟩
    · exact .inl ⟨c, z, h1, h2, by rw [← h3]; exact q⟩
    · exact .inr (.inl ⟨d, ds, h1, h2, h3, h4, by rw [← h5]; exact q⟩)
    · exact .inr (.inr ⟨d, ds, h1, h2, h3, h4, by rw [if_pos rfl, ← h5]; exact q⟩)
  · cases e
/-! ### is None -/
def gIs : Dt → Dt → Option Ow
  | .non, .non => some (.sh (.bl true))
  | _, .non => some (.sh (.bl false))
  | _, _ => none
def gIsN : Dt → Dt → Option Ow
  | .non, .non => some (.sh (.bl false))
  | _, .non => some (.sh (.bl true))
  | _, _ => none
theorem rd_is : RD2 F rIsN gIs := .flat fun H B v w x y o G rx ry e => by
  cases rx <;> cases ry <;> simp only [gIs, Option.some.injEq] at e <;> first
    | exact ⟨.bl true, _, e.symm, fun _ => .bl _, fun Q q => ⟨rfl, q⟩⟩
    | exact ⟨.bl false, _, e.symm, fun _ => .bl _, fun Q q => ⟨rfl, by simpa using q⟩⟩
    | cases e
theorem rd_isn : RD2 F rNotN gIsN := .flat fun H B v w x y o G rx ry e => by
  cases rx <;> cases ry <;> simp only [gIsN, Option.some.injEq] at e <;> first
    | exact ⟨.bl false, _, e.symm, fun _ => .bl _, fun Q q => ⟨rfl, by simpa using q⟩⟩
    | exact ⟨.bl true, _, e.symm, fun _ => .bl _, fun Q q => ⟨rfl, by simpa using q⟩⟩
    | cases e
/-! ### subscripts -/
def atN (n : Nat) (i : Int) : Option Nat := if 0 ≤ i then (if i < n then some i.toNat else none) else if -(n : Int) ≤ i then some (i + n).toNat else none
theorem atN_ix (n : Nat) (i : Int) : ixN n i = atN n i := rfl
def gIx : Dt → Dt → Option Ow
  | .lst ds, .int i => match atN ds.length i with
    | some j => match ds[j]? with
      | some d => some (.sh d)
      | none => none
    | none => none
  | .tup ds, .int i => match atN ds.length i with
    | some j => match ds[j]? with
      | some d => some (.sh d)
      | none => none
    | none => none
  | .str s, .int i => if Nat.ble s.length 16777216 then match atN s.length i with
      | some j => match s[j]? with
        | some c => some (.sh (.str [c]))
        | none => none
      | none => none
    else none
  | _, _ => none
theorem at_rps {K : PySem.W.Frag} {B : Hp} {vs : List V} {ds : List Dt} {i : Int} {j : Nat} {d : Dt} (r : Rps K B vs ds) (h1 : atN ds.length i = some j) (h2 : ds[j]? = some d) : ∃ v, atI vs i = some v ∧ Rp K B v d := by
  obtain ⟨v, h3, h4⟩ := r.get h2
  refine ⟨v, ?_, h4⟩
  unfold atI
  rw [r.length, atN_ix, h1]
  exact h3
theorem rd_ix : RD2 F (rIx F.K) gIx := fun H B v w x y o G rx ry e Q q => by
  unfold gIx at e
  split at e
  · rename_i ds i
    split at e
    · rename_i j hj
      split at e
      · rename_i d hd
        simp only [Option.some.injEq] at e
        subst e
        cases ry
        cases rx with
        | lst h1 r1 =>
          obtain ⟨z, e1, e2⟩ := at_rps r1 hj hd
          exact .inl ⟨_, _, i, z, rfl, rfl, G.sqL h1, e1, q z H B Stp.refl G e2⟩
      · cases e
    · cases e
  · rename_i ds i
    split at e
    · rename_i j hj
      split at e
      · rename_i d hd
        simp only [Option.some.injEq] at e
        subst e
        cases ry
        cases rx with
        | tup h1 r1 =>
          obtain ⟨z, e1, e2⟩ := at_rps r1 hj hd
          exact .inr (.inl ⟨_, _, i, z, rfl, rfl, G.sqT h1, e1, q z H B Stp.refl G e2⟩)
      · cases e
    · cases e
  · rename_i s i
    split at e
    · rename_i hz
      split at e
      · rename_i j hj
        split at e
        · rename_i c hc
          simp only [Option.some.injEq] at e
          subst e
          cases ry
          cases rx
          refine .inr (.inr ⟨_, i, c, rfl, rfl, by rw [str_len]; exact szl hz, ?_, q _ H B Stp.refl G (.str [c])⟩)
          unfold atI
          rw [atN_ix]
          show (atN s.toArray.toList.length i).bind (fun j => s.toArray.toList[j]?) = some c
          have e0 : s.toArray.toList = s := by simp
          rw [e0, hj]
          exact hc
        · cases e
      · cases e
    · cases e
  · cases e
/-! ### slices -/
def ixS (n d : Nat) : Option Int → Nat
  | none => d
  | some v => if v < 0 then (v + (n : Int)).toNat else min v.toNat n
theorem ixS_eq (n d : Nat) (o : Option Int) : HT.sIx n d o = ixS n d o := by cases o <;> rfl
def cutD {α : Type} (xs : List α) (lo hi : Option Int) : List α := (xs.drop (ixS xs.length 0 lo)).take (ixS xs.length xs.length hi - ixS xs.length 0 lo)
theorem cutD_rps {K : PySem.W.Frag} {B : Hp} {vs : List V} {ds : List Dt} (r : Rps K B vs ds) (lo hi : Option Int) : Rps K B (cutV vs lo hi) (cutD ds lo hi) := by
  unfold cutV cutD
  rw [r.length, ixS_eq, ixS_eq]
  exact (r.drop _).take _
abbrev Fo := DEnv → Option (Option Int × DEnv)
def EO (F : Act) (to : TO) (f : Fo) : Prop := ∀ (σ : L2.St) (H B : Hp) (env : DEnv) (i : Option Int) (env' : DEnv), SD F σ H B env → f env = some (i, env') →
  ∀ Q : Option Int → Hp → Prop, (∀ (H' B' : Hp), Lft F σ H B env H' B' env' → Q i H') → to σ H Q
def oNone : Fo := fun env => some (none, env)
def oSome (f : Fe) : Fo := fun env => match pur f env with
  | some (.int i, e) => some (some i, e)
  | _ => none
theorem eo_none : EO F tNoPart oNone := by
  intro σ H B env i env' S e Q q
  simp only [oNone, Option.some.injEq, Prod.mk.injEq] at e
  obtain ⟨rfl, rfl⟩ := e
  exact q H B (Lft.refl S)
theorem eo_some {te : TE} {f : Fe} (h : ED F te f) : EO F (tPart te) (oSome f) := by
  intro σ H B env i env' S e Q q
  unfold oSome at e
  split at e
  · rename_i j e1 h1
    simp only [Option.some.injEq, Prod.mk.injEq] at e
    obtain ⟨rfl, rfl⟩ := e
    refine h.pur σ H B env (.int j) e1 S h1 _ fun v H' B' L r => ?_
    cases r
    exact ⟨j, rfl, q H' B' L⟩
  · cases e
def gSl : Dt → Option Int → Option Int → Option Ow
  | .lst ds, lo, hi => some (.lst (cutD ds lo hi))
  | .tup ds, lo, hi => some (.sh (.tup (cutD ds lo hi)))
  | .str s, lo, hi => if Nat.ble s.length 16777216 then some (.sh (.str (cutD s lo hi))) else none
  | _, _, _ => none
def fSl (fa : Fe) (fl fh : Fo) : Fe := fun env => match pur fa env with
  | none => none
  | some (x, e1) => match fl e1 with
    | none => none
    | some (lo, e2) => match fh e2 with
      | none => none
      | some (hi, e3) => match gSl x lo hi with
        | some o => some (o, e3)
        | none => none
def rSlU (K : PySem.W.Frag) : V → Option Int → Option Int → Hp → VK → Prop := fun x lo hi H Q => rSlL K x lo hi H Q ∨ (rSlA K x lo hi H Q ∨ rSlS x lo hi H Q)
theorem sl_U {X : Cx} : SlR X (rSlU X.K) := sl_list.or (sl_tupA.or sl_str)
theorem ed_sl {te : TE} {tl th : TO} {fa : Fe} {fl fh : Fo} (ha : ED F te fa) (hl : EO F tl fl) (hh : EO F th fh) : ED F (tSl (rSlU F.K) te tl th) (fSl fa fl fh) := by
  intro σ H B env o env' S e Q q
  unfold fSl at e
  cases h1 : DL.pur fa env with
  | none => rw [h1] at e; cases e
  | some p1 =>
    obtain ⟨x, e1⟩ := p1
    rw [h1] at e
    dsimp only at e
    cases h2 : fl e1 with
    | none => rw [h2] at e; cases e
    | some p2 =>
      obtain ⟨lo, e2⟩ := p2
      rw [h2] at e
      dsimp only at e
      cases h3 : fh e2 with
      | none => rw [h3] at e; cases e
      | some p3 =>
        obtain ⟨hi, e3⟩ := p3
        rw [h3] at e
        dsimp only at e
        cases h4 : gSl x lo hi with
        | none => rw [h4] at e; cases e
        | some o' =>
          rw [h4] at e
          simp only [Option.some.injEq, Prod.mk.injEq] at e
          obtain ⟨rfl, rfl⟩ := e
          refine ha.pur σ H B env x e1 S h1 _ fun v H1 B1 L1 r1 => ?_
          refine hl σ H1 B1 e1 lo e2 L1.sd h2 _ fun H2 B2 L2 => ?_
          refine hh σ H2 B2 e2 hi e3 L2.sd h3 _ fun H3 B3 L3 => ?_
          have L := (L1.trans L2).trans L3
          have r3 : Rp F.K B3 v x := r1.up (L2.stp.bb.trans L3.stp.bb)
          have G := L3.sd.gr
          unfold gSl at h4
          split at h4
          · simp only [Option.some.injEq] at h4
            subst h4
            cases r3 with
            | lst k1 k2 =>
              refine .inl ⟨_, _, rfl, G.sqL k1, fun p hp => ?_⟩
              obtain ⟨t, g2, w2⟩ := wok_new (F := F) G hp (cutD_rps k2 lo hi)
              exact q _ _ _ (L.trans (Lft.of L3.sd t g2)) (w2.since L.stp.th)
          · simp only [Option.some.injEq] at h4
            subst h4
            cases r3 with
            | tup k1 k2 =>
              rename_i ds xs'
              refine .inr (.inl ⟨_, _, rfl, G.sqT k1, fun hw => ?_, fun _ p hp => ?_⟩)
              · refine q _ _ _ L (Rp.tup k1 ?_)
                have hc := cutD_rps k2 lo hi
                unfold cutV at hc
                rw [hw.1, hw.2, Nat.sub_zero, List.drop_zero, List.take_length] at hc
                exact hc
              · have t := stp_put (o := HO.tup (cutV xs' lo hi)) G hp
                exact q _ _ _ (L.trans (Lft.of L3.sd t (gr_put G hp))) (Rp.tup (.inl (.inl upd_same)) ((cutD_rps k2 lo hi).up t.bb))
          · split at h4
            · rename_i hz
              simp only [Option.some.injEq] at h4
              subst h4
              cases r3
              refine .inr (.inr ⟨_, rfl, by rw [str_len]; exact szl hz, ?_⟩)
              have e9 : ∀ s : List Nat, cutS ⟨s.toArray⟩ lo hi = ⟨(cutD s lo hi).toArray⟩ := fun s => by
                unfold cutS cutD
                rw [str_len, ixS_eq, ixS_eq]
              rw [e9]
              exact q _ _ _ L (.str _)
            · cases h4
          · cases h4
end
end DL
set_option Elab.async false
set_option linter.all false
set_option maxRecDepth 100000
/-! DL5: built-in functions, methods of texts, statements -/
namespace DL
open PySem PySem.Spec PyProof.Rows L2
section
variable {F : Act}
/-! ### built-in functions by values -/
abbrev Fq := DEnv → Option (List Dt × DEnv)
def RC (F : Act) (r : List V → Hp → VK → Prop) (g : List Dt → Option Ow) : Prop := ∀ (H B : Hp) (vs : List V) (ds : List Dt) (o : Ow), Gr B H → Rps F.K B vs ds → g ds = some o →
  ∀ Q : VK, (∀ (z : V) (H' B' : Hp), Stp (fun _ => False) B H B' H' → Gr B' H' → WOk F H H' B' z o → Q z H') → r vs H Q
def fCB (g : List Dt → Option Ow) (fq : Fq) : Fe := fun env => match fq env with
  | none => none
  | some (ds, e1) => match g ds with
    | some o => some (o, e1)
    | none => none
theorem ed_cb {r : List V → Hp → VK → Prop} {g : List Dt → Option Ow} {ta : TA} {fq : Fq} (ha : EQ F ta fq) (hr : RC F r g) : ED F (tCB r ta) (fCB g fq) := by
  intro σ H B env o env' S e Q q
  unfold fCB at e
  cases h1 : fq env with
  | none => rw [h1] at e; cases e
  | some p1 =>
    obtain ⟨ds, e1⟩ := p1
    rw [h1] at e
    dsimp only at e
    cases h2 : g ds with
    | none => rw [h2] at e; cases e
    | some o' =>
      rw [h2] at e
      simp only [Option.some.injEq, Prod.mk.injEq] at e
      obtain ⟨rfl, rfl⟩ := e
      refine ha σ H B env ds e1 S h1 _ fun vs H1 B1 L1 r1 => ?_
      exact hr H1 B1 vs ds o' L1.sd.gr r1 h2 Q fun z H3 B3 t g3 w3 => q z H3 B3 (L1.trans (Lft.of L1.sd t g3)) (w3.since L1.stp.th)
theorem rps1 {K : PySem.W.Frag} {B : Hp} {vs : List V} {d : Dt} (r : Rps K B vs [d]) : ∃ v, vs = [v] ∧ Rp K B v d := by
  cases r with
  | cons h t => cases t; exact ⟨_, rfl, h⟩
theorem rps2 {K : PySem.W.Frag} {B : Hp} {vs : List V} {d e : Dt} (r : Rps K B vs [d, e]) : ∃ v w, vs = [v, w] ∧ Rp K B v d ∧ Rp K B w e := by
  cases r with
  | cons h t =>
    obtain ⟨w, rfl, h2⟩ := rps1 t
    exact ⟨_, _, rfl, h, h2⟩
def rLen1 (K : PySem.W.Frag) : List V → Hp → VK → Prop := fun xs H Q => ∃ x n, xs = [x] ∧ LenV K x H n ∧ Q (.int (n : Nat)) H
theorem call_len1 {X : Cx} : CallR X (.builtin "len") (rLen1 X.K) := call_len
def gLen : List Dt → Option Ow
  | [.str s] => if Nat.ble s.length 16777216 then some (.sh (.int (s.length : Nat))) else none
  | [.lst ds] => some (.sh (.int (ds.length : Nat)))
  | [.tup ds] => some (.sh (.int (ds.length : Nat)))
  | _ => none
theorem rc_len : RC F (rLen1 F.K) gLen := fun H B vs ds o G r e Q q => by
  unfold gLen at e
  split at e
  · obtain ⟨v, rfl, rv⟩ := rps1 r
    cases rv
    split at e
    · rename_i hz
      simp only [Option.some.injEq] at e
      subst e
      exact ⟨_, _, rfl, ⟨by rw [str_len]; exact szl hz, rfl⟩, q _ H B Stp.refl G (by rw [str_len]; exact Rp.int _)⟩
    · cases e
  · obtain ⟨v, rfl, rv⟩ := rps1 r
    simp only [Option.some.injEq] at e
    subst e
    cases rv with
    | lst h1 r1 => exact ⟨_, _, rfl, .inl ⟨_, G.sqL h1, rfl⟩, q _ H B Stp.refl G (by rw [r1.length]; exact Rp.int _)⟩
  · obtain ⟨v, rfl, rv⟩ := rps1 r
    simp only [Option.some.injEq] at e
    subst e
    cases rv with
    | tup h1 r1 => exact ⟨_, _, rfl, .inr ⟨_, G.sqT h1, rfl⟩, q _ H B Stp.refl G (by rw [r1.length]; exact Rp.int _)⟩
  · cases e
def rMx2 : List V → Hp → VK → Prop := fun xs H Q => ∃ i j, xs = [.int i, .int j] ∧ Q (.int (if j > i then j else i)) H
theorem call_mx2 {X : Cx} (hc : X.calm = true) : CallR X (.builtin "max") rMx2 := call_max2 hc
def gMx2 : List Dt → Option Ow
  | [.int i, .int j] => some (.sh (.int (if j > i then j else i)))
  | _ => none
theorem rc_mx2 : RC F rMx2 gMx2 := fun H B vs ds o G r e Q q => by
  unfold gMx2 at e
  split at e
  · obtain ⟨v, w, rfl, rv, rw'⟩ := rps2 r
    cases rv; cases rw'
    simp only [Option.some.injEq] at e
    subst e
    exact ⟨_, _, rfl, q _ H B Stp.refl G (Rp.int _)⟩
  · cases e
/-- a list of truths -/
def blsD : List Dt → Option (List Bool)
  | [] => some []
  | .bl b :: ds => match blsD ds with
    | some bs => some (b :: bs)
    | none => none
  | _ => none
theorem blsD_rps {K : PySem.W.Frag} {B : Hp} : ∀ {ds : List Dt} {bs : List Bool} {vs : List V}, blsD ds = some bs → Rps K B vs ds → vs = bs.map V.bl
  | [], _, _, e, r => by
    simp only [blsD, Option.some.injEq] at e
    subst e
    cases r
    rfl
  | d :: ds, bs, vs, e, r => by
    cases r with
    | cons h t =>
      cases d with
      | bl b =>
        cases h
        simp only [blsD] at e
        cases hb : blsD ds with
        | none => rw [hb] at e; cases e
        | some cs =>
          rw [hb] at e
          simp only [Option.some.injEq] at e
          subst e
          rw [blsD_rps hb t]
          rfl
      | _ => simp [blsD] at e
def gAll : List Dt → Option Ow
  | [.lst ds] => match blsD ds with
    | some bs => some (.sh (.bl (bs.all id)))
    | none => none
  | _ => none
def gAny : List Dt → Option Ow
  | [.lst ds] => match blsD ds with
    | some bs => some (.sh (.bl (bs.any id)))
    | none => none
  | _ => none
theorem rc_all : RC F (rAll F.K) gAll := fun H B vs ds o G r e Q q => by
  unfold gAll at e
  split at e
  · split at e
    · rename_i bs hb
      obtain ⟨v, rfl, rv⟩ := rps1 r
      simp only [Option.some.injEq] at e
      subst e
      cases rv with
      | lst h1 r1 => exact ⟨_, bs, rfl, by rw [← blsD_rps hb r1]; exact G.sqL h1, q _ H B Stp.refl G (Rp.bl _)⟩
    · cases e
  · cases e
theorem rc_any : RC F (rAny F.K) gAny := fun H B vs ds o G r e Q q => by
  unfold gAny at e
  split at e
  · split at e
    · rename_i bs hb
      obtain ⟨v, rfl, rv⟩ := rps1 r
      simp only [Option.some.injEq] at e
      subst e
      cases rv with
      | lst h1 r1 => exact ⟨_, bs, rfl, by rw [← blsD_rps hb r1]; exact G.sqL h1, q _ H B Stp.refl G (Rp.bl _)⟩
    · cases e
  · cases e
/-! ### methods of texts -/
/-- t.m(e): the reading of pe_m1 -/
def fM1 (g : Dt → Dt → Option Ow) (fa fb : Fe) : Fe := fOp g fa fb
def RM1 (F : Act) (r : V → List V → Hp → VK → Prop) (g : Dt → Dt → Option Ow) : Prop := ∀ (H B : Hp) (v w : V) (x y : Dt) (o : Ow), Gr B H → Rp F.K B v x → Rp F.K B w y → g x y = some o →
  (∃ a, v = .str a) ∧ ∀ Q : VK, (∀ (z : V) (H' B' : Hp), Stp (fun _ => False) B H B' H' → Gr B' H' → WOk F H H' B' z o → Q z H') → r v [w] H Q
theorem ed_m1 {r : V → List V → Hp → VK → Prop} {g : Dt → Dt → Option Ow} {ta tb : TE} {fa fb : Fe} (ha : ED F ta fa) (hb : ED F tb fb) (hr : RM1 F r g) (hg : ∀ x y o, g x y = some o → ∃ s, x = .str s) : ED F (tM1 r ta tb) (fM1 g fa fb) := by
  intro σ H B env o env' S e Q q
  unfold fM1 fOp at e
  cases h1 : DL.pur fa env with
  | none => rw [h1] at e; cases e
  | some p1 =>
    obtain ⟨x, e1⟩ := p1
    rw [h1] at e
    dsimp only at e
    cases h2 : DL.pur fb e1 with
    | none => rw [h2] at e; cases e
    | some p2 =>
      obtain ⟨y, e2⟩ := p2
      rw [h2] at e
      dsimp only at e
      cases h3 : g x y with
      | none => rw [h3] at e; cases e
      | some o' =>
        rw [h3] at e
        simp only [Option.some.injEq, Prod.mk.injEq] at e
        obtain ⟨rfl, rfl⟩ := e
        obtain ⟨s, rfl⟩ := hg _ _ _ h3
        refine ha.pur σ H B env _ e1 S h1 _ fun v H1 B1 L1 r1 => ?_
        refine ⟨by cases r1; exact ⟨_, rfl⟩, ?_⟩
        refine hb.pur σ H1 B1 e1 y e2 L1.sd h2 _ fun w H2 B2 L2 r2 => ?_
        refine (hr H2 B2 v w _ y o' L2.sd.gr (r1.up L2.stp.bb) r2 h3).2 Q fun z H3 B3 t g3 w3 => ?_
        exact q z H3 B3 ((L1.trans L2).trans (Lft.of L2.sd t g3)) (w3.since fun a n => L2.stp.th a (L1.stp.th a n))
def rSplit1 : V → List V → Hp → VK → Prop := fun x xs H Q => ∃ a b, x = .str a ∧ xs = [.str b] ∧ (b.length == 0) = false ∧ a.length + 2 ≤ sizeLine ∧ rNewStrs (Txt.split a b) H Q
/-- the parts of a text between the places of another one -/
def splitD (s t : List Nat) : List (List Nat) := (Txt.split ⟨s.toArray⟩ ⟨t.toArray⟩).map fun z => z.cps.toList
def gSplit : Dt → Dt → Option Ow
  | .str s, .str t => if (!t.isEmpty) && Nat.ble (s.length + 2) 16777216 then some (.lst ((splitD s t).map Dt.str)) else none
  | _, _ => none
theorem strs_rps {K : PySem.W.Frag} {B : Hp} : ∀ ys : List Str, Rps K B (ys.map V.str) ((ys.map fun z => z.cps.toList).map Dt.str)
  | [] => .nil
  | y :: ys => .cons (by have := Rp.str (K := K) (H := B) y.cps.toList; simpa using this) (strs_rps ys)
theorem rm_split : RM1 F rSplit1 gSplit := fun H B v w x y o G rx ry e => by
  unfold gSplit at e
  split at e
  · rename_i s t
    split at e
    · rename_i hz
      rw [Bool.and_eq_true] at hz
      simp only [Option.some.injEq] at e
      subst e
      cases rx; cases ry
      refine ⟨⟨_, rfl⟩, fun Q q => ⟨_, _, rfl, rfl, ?_, by rw [str_len]; exact szl hz.2, fun p hp => ?_⟩⟩
      · rw [str_len]
        cases t with
        | nil => simp at hz
        | cons _ _ => rfl
      · obtain ⟨t1, g2, w2⟩ := wok_new (F := F) G hp (strs_rps (Txt.split ⟨s.toArray⟩ ⟨t.toArray⟩))
        exact q _ _ _ t1 g2 w2
    · cases e
  · cases e
/-- a list of texts -/
def strsD : List Dt → Option (List (List Nat))
  | [] => some []
  | .str s :: ds => match strsD ds with
    | some ss => some (s :: ss)
    | none => none
  | _ => none
theorem strsD_rps {K : PySem.W.Frag} {B : Hp} : ∀ {ds : List Dt} {ss : List (List Nat)} {vs : List V}, strsD ds = some ss → Rps K B vs ds → vs = (ss.map fun s => (⟨s.toArray⟩ : Str)).map V.str
  | [], _, _, e, r => by
    simp only [strsD, Option.some.injEq] at e
    subst e
    cases r
    rfl
  | d :: ds, bs, vs, e, r => by
    cases r with
    | cons h t =>
      cases d with
      | str b =>
        cases h
        simp only [strsD] at e
        cases hb : strsD ds with
        | none => rw [hb] at e; cases e
        | some cs =>
          rw [hb] at e
          simp only [Option.some.injEq] at e
          subst e
          rw [strsD_rps hb t]
          rfl
      | _ => simp [strsD] at e
def rJoin1 (K : PySem.W.Frag) : V → List V → Hp → VK → Prop := fun x xs H Q => ∃ a p, ∃ ys : List Str, x = V.str a ∧ xs = [V.ref p] ∧ (SqL K H p (ys.map V.str) ∨ SqT K H p (ys.map V.str)) ∧ (ys.map (·.length)).sum + ys.length * a.length ≤ 16777216 ∧ Q (.str (Txt.join a ys)) H
/-- texts with another one between them -/
def joinD (sep : List Nat) : List (List Nat) → List Nat
  | [] => []
  | [s] => s
  | s :: r => s ++ sep ++ joinD sep r
theorem glued_one (sep : List Nat) : ∀ (l : List (List Nat)) (acc : List Nat), ((l.map fun s => (⟨s.toArray⟩ : Str)).foldl (fun acc p => acc ++ sep.toArray ++ p.cps) acc.toArray) = (acc ++ (l.map fun s => sep ++ s).flatten).toArray
  | [], acc => by simp
  | s :: r, acc => by
    rw [List.map_cons, List.foldl_cons]
    have e : acc.toArray ++ sep.toArray ++ s.toArray = (acc ++ sep ++ s).toArray := by simp
    show List.foldl _ (acc.toArray ++ sep.toArray ++ s.toArray) _ = _
    rw [e, glued_one sep r]
    simp
theorem joinD_cons (sep s : List Nat) : ∀ r : List (List Nat), joinD sep (s :: r) = s ++ (r.map fun s => sep ++ s).flatten
  | [] => by simp [joinD]
  | t :: r => by
    show s ++ sep ++ joinD sep (t :: r) = _
    rw [joinD_cons sep t r]
    simp
theorem join_eq (sep : List Nat) (ss : List (List Nat)) : Txt.join ⟨sep.toArray⟩ (ss.map fun s => (⟨s.toArray⟩ : Str)) = ⟨(joinD sep ss).toArray⟩ := by
  cases ss with
  | nil => rfl
  | cons s r =>
    show Str.mk (((r.map fun s => (⟨s.toArray⟩ : Str))).foldl (fun acc p => acc ++ sep.toArray ++ p.cps) s.toArray) = _
    rw [glued_one, joinD_cons]
def joinOk (sep : List Nat) (ss : List (List Nat)) : Bool := Nat.ble ((ss.map List.length).sum + ss.length * sep.length) 16777216
def gJoin : Dt → Dt → Option Ow
  | .str s, .lst ds => match strsD ds with
    | some ss => if joinOk s ss then some (.sh (.str (joinD s ss))) else none
    | none => none
  | .str s, .tup ds => match strsD ds with
    | some ss => if joinOk s ss then some (.sh (.str (joinD s ss))) else none
    | none => none
  | _, _ => none
theorem joinOk_ok {sep : List Nat} {ss : List (List Nat)} (h : joinOk sep ss = true) : ((ss.map fun s => (⟨s.toArray⟩ : Str)).map (·.length)).sum + (ss.map fun s => (⟨s.toArray⟩ : Str)).length * (⟨sep.toArray⟩ : Str).length ≤ 16777216 := by
  have h1 := Nat.le_of_ble_eq_true h
  rw [List.map_map, List.length_map, str_len]
  have e : ((fun x : Str => x.length) ∘ fun s : List Nat => (⟨s.toArray⟩ : Str)) = List.length := by
    funext s
    exact str_len s
  rw [e]
  exact h1
theorem rm_join : RM1 F (rJoin1 F.K) gJoin := fun H B v w x y o G rx ry e => by
  unfold gJoin at e
  split at e
  · split at e
    · rename_i ss hss
      split at e
      · rename_i hz
        simp only [Option.some.injEq] at e
        subst e
        cases rx
        cases ry with
        | lst h1 r1 =>
          refine ⟨⟨_, rfl⟩, fun Q q => ⟨_, _, ss.map fun s => (⟨s.toArray⟩ : Str), rfl, rfl, .inl (by rw [← strsD_rps hss r1]; exact G.sqL h1), joinOk_ok hz, ?_⟩⟩
          rw [join_eq]
          exact q _ H B Stp.refl G (Rp.str _)
      · cases e
    · cases e
  · split at e
    · rename_i ss hss
      split at e
      · rename_i hz
        simp only [Option.some.injEq] at e
        subst e
        cases rx
        cases ry with
        | tup h1 r1 =>
          refine ⟨⟨_, rfl⟩, fun Q q => ⟨_, _, ss.map fun s => (⟨s.toArray⟩ : Str), rfl, rfl, .inr (by rw [← strsD_rps hss r1]; exact G.sqT h1), joinOk_ok hz, ?_⟩⟩
          rw [join_eq]
          exact q _ H B Stp.refl G (Rp.str _)
      · cases e
    · cases e
  · cases e
theorem gSplit_str : ∀ x y o, gSplit x y = some o → ∃ s, x = .str s := fun x y o e => by
  cases x <;> first
    | exact ⟨_, rfl⟩
    | (simp [gSplit] at e)
theorem gJoin_str : ∀ x y o, gJoin x y = some o → ∃ s, x = .str s := fun x y o e => by
  cases x <;> first
    | exact ⟨_, rfl⟩
    | (simp [gJoin] at e)
/-! ### a call of a def of the text -/
/-- the promise: f of the data; the tables of T are as they have to be -/
def spD (K : PySem.W.Frag) (T : List Addr) (f : List Dt → Option Dt) : Sp := fun vs H Q _ => ∃ (B : Hp) (ds : List Dt) (d : Dt), Gr B H ∧ (∀ a ps, B a ≠ some (.tbl ps)) ∧ (∀ p ∈ T, GxR.TabG H p) ∧ Rps K B vs ds ∧ f ds = some d ∧
  ∀ (v : V) (H' B' : Hp), Stp (fun _ => False) B H B' H' → Gr B' H' → Rp K B' v d → Q v H'
def fCall (f : List Dt → Option Dt) (fq : Fq) : Fe := fun env => match fq env with
  | none => none
  | some (ds, e1) => match f ds with
    | some d => some (.sh d, e1)
    | none => none
/-- what an activation's entry has to be -/
structure Ent (F : Act) (T : List Addr) : Prop where
  nb : ∀ a ps, F.B0 a ≠ some (.tbl ps)
  tb : ∀ p ∈ T, GxR.TabG F.H0 p
theorem Ent.at {T : List Addr} {σ : L2.St} {H B : Hp} {env : DEnv} (E : Ent F T) (S : SD F σ H B env) : (∀ a ps, B a ≠ some (.tbl ps)) ∧ ∀ p ∈ T, GxR.TabG H p :=
  ⟨fun a ps e => E.nb a ps (S.ent.bt a ps e), fun p hp => S.ent.tb p (E.tb p hp)⟩
theorem ed_call {T : List Addr} (ET : Ent F T) {f : List Dt → Option Dt} {E : XK} {ta : TA} {fq : Fq} (ha : EQ F ta fq) : ED F (tCall (spD F.K T f) [] E ta) (fCall f fq) := by
  intro σ H B env o env' S e Q q
  unfold fCall at e
  cases h1 : fq env with
  | none => rw [h1] at e; cases e
  | some p1 =>
    obtain ⟨ds, e1⟩ := p1
    rw [h1] at e
    dsimp only at e
    cases h2 : f ds with
    | none => rw [h2] at e; cases e
    | some d =>
      rw [h2] at e
      simp only [Option.some.injEq, Prod.mk.injEq] at e
      obtain ⟨rfl, rfl⟩ := e
      refine ha σ H B env ds e1 S h1 _ fun vs H1 B1 L1 r1 => ?_
      obtain ⟨n1, n2⟩ := ET.at L1.sd
      refine ⟨B1, ds, d, L1.sd.gr, n1, n2, by rw [List.append_nil]; exact r1, h2, fun v H' B' t g r => ?_⟩
      exact q v H' B' (L1.trans (Lft.of L1.sd t g)) r
/-! ### all(.. for x in text) -/
def fAllT (pb : Nat → Bool) (fa : Fe) : Fe := fun env => match pur fa env with
  | some (.str s, e) => some (.sh (.bl (s.all pb)), e)
  | _ => none
theorem ed_allT {T : List Addr} (ET : Ent F T) {P : Addr} (hP : P ∈ T) {pb : Nat → Bool} {te : TE} {fa : Fe} (ha : ED F te fa) : ED F (GxR.tAllS P pb te) (fAllT pb fa) := by
  intro σ H B env o env' S e Q q
  unfold fAllT at e
  split at e
  · rename_i s e1 h1
    simp only [Option.some.injEq, Prod.mk.injEq] at e
    obtain ⟨rfl, rfl⟩ := e
    refine ha.pur σ H B env _ e1 S h1 _ fun v H1 B1 L1 r1 => ?_
    cases r1
    obtain ⟨n1, n2⟩ := ET.at L1.sd
    refine ⟨⟨s.toArray⟩, rfl, n2 P hP, fun H2 ⟨t1, t2⟩ => ?_⟩
    obtain ⟨ps0, e0, _⟩ := n2 P hP
    have stp : Stp (fun _ => False) B1 H1 B1 H2 := by
      refine ⟨Gr.refl, fun _ z _ _ => z, fun a u z n _ => ?_, fun a z => ?_, fun p z => ?_, fun _ _ z => z⟩
      · rw [t2 a (fun w => by rw [w, e0] at z; exact n _ (Option.some.inj z).symm)]
        exact z
      · by_cases w : a = P
        · rw [w]
          obtain ⟨ps, e9, _⟩ := t1
          rw [e9]
          exact fun y => by cases y
        · rw [t2 a w]
          exact z
      · by_cases w : p = P
        · rw [w]
          exact t1
        · obtain ⟨ps, e9, k⟩ := z
          exact ⟨ps, by rw [t2 p w]; exact e9, k⟩
    have g2 : Gr B1 H2 := fun a u z => by
      have z1 := L1.sd.gr a u z
      rw [t2 a (fun w => by rw [w] at z z1; rw [e0] at z1; exact n1 P ps0 (by rw [z, Option.some.inj z1]))]
      exact z1
    have := q _ _ _ (L1.trans (Lft.of L1.sd stp g2)) (Rp.bl (s.all pb))
    simpa using this
  · cases e
end
end DL
set_option Elab.async false
set_option linter.all false
set_option maxRecDepth 100000
/-! DL6: statements, loops, comprehensions -/
namespace DL
open PySem PySem.Spec PyProof.Rows L2
inductive Out where
  | nx (e : DEnv) | rt (d : Dt) (e : DEnv) | bk (e : DEnv) | ct (e : DEnv)
abbrev Fs := DEnv → Option Out
def Post (F : Act) (B : Hp) (D : Ends) : Out → Prop
  | .nx e => ∀ (σ' : L2.St) (H' B' : Hp), Gr B B' → SD F σ' H' B' e → D.nx σ' H'
  | .rt d e => ∀ (v : V) (σ' : L2.St) (H' B' : Hp), Gr B B' → SD F σ' H' B' e → Rp F.K B' v d → D.rt v H'
  | .bk e => ∀ (σ' : L2.St) (H' B' : Hp), Gr B B' → SD F σ' H' B' e → D.bk σ' H'
  | .ct e => ∀ (σ' : L2.St) (H' B' : Hp), Gr B B' → SD F σ' H' B' e → D.ct σ' H'
def ES (F : Act) (ts : TS) (fs : Fs) : Prop := ∀ (σ : L2.St) (H B : Hp) (env : DEnv) (o : Out), SD F σ H B env → fs env = some o → ∀ D : Ends, Post F B D o → ts D σ H
section
variable {F : Act} {te : TE} {tt : TT} {ts tu : TS} {f : Fe} {c : Ft} {fs gs : Fs}
theorem Post.up {B B' : Hp} {D : Ends} {o : Out} (g : Gr B B') (h : Post F B D o) : Post F B' D o := by
  cases o with
  | nx e => exact fun σ' H' B2 k => h σ' H' B2 (g.trans k)
  | rt d e => exact fun v σ' H' B2 k => h v σ' H' B2 (g.trans k)
  | bk e => exact fun σ' H' B2 k => h σ' H' B2 (g.trans k)
  | ct e => exact fun σ' H' B2 k => h σ' H' B2 (g.trans k)
def sSeq (f g : Fs) : Fs := fun env => match f env with
  | some (.nx e) => g e
  | r => r
theorem es_seq (h : ES F ts fs) (k : ES F tu gs) : ES F (tSeq ts tu) (sSeq fs gs) := by
  intro σ H B env o S e D P
  unfold sSeq at e
  cases h1 : fs env with
  | none => rw [h1] at e; cases e
  | some o1 =>
    rw [h1] at e
    refine h σ H B env o1 S h1 { D with nx := tu D } ?_
    cases o1 with
    | nx e1 => exact fun σ' H' B' g S' => k σ' H' B' e1 o S' e D (P.up g)
    | rt d e1 =>
      simp only [Option.some.injEq] at e
      subst e
      exact P
    | bk e1 =>
      simp only [Option.some.injEq] at e
      subst e
      exact P
    | ct e1 =>
      simp only [Option.some.injEq] at e
      subst e
      exact P
def sNx : Fs := fun env => some (.nx env)
theorem es_nx : ES F tNext sNx := by
  intro σ H B env o S e D P
  simp only [sNx, Option.some.injEq] at e
  subst e
  exact P σ H B Gr.refl S
theorem es_bk : ES F tBreak (fun env => some (.bk env)) := by
  intro σ H B env o S e D P
  simp only [Option.some.injEq] at e
  subst e
  exact P σ H B Gr.refl S
theorem es_ct : ES F tCont (fun env => some (.ct env)) := by
  intro σ H B env o S e D P
  simp only [Option.some.injEq] at e
  subst e
  exact P σ H B Gr.refl S
/-- a way that is never gone: whatever stands there -/
theorem es_never : ES F tNever (fun _ => none) := fun _ _ _ _ _ _ e => by cases e
theorem lt_of_slot {env : DEnv} {σ : L2.St} {H B : Hp} (S : SD F σ H B env) {i : Nat} (h : i < env.length) : i < σ.length := by rw [S.len]; exact h
/-- a value goes to a slot -/
theorem SD.put {σ : L2.St} {H B Hs : Hp} {env : DEnv} {v : V} {o : Ow} (i : Nat) (hi : i < env.length) (S : SD F σ H B env) (hoa : ∀ a, OA σ env a → Hs a ≠ none) (hs : ∀ a, Hs a = none → F.H0 a = none) (w : WOk F Hs H B v o) : SD F (σ.set i (some v)) H B (env.set i (some o)) := by
  have his : i < σ.length := lt_of_slot S hi
  have ne : ∀ j, j ≠ i → (σ.set i (some v))[j]? = σ[j]? := fun j n => List.getElem?_set_ne n.symm
  have ne' : ∀ j, j ≠ i → (env.set i (some o))[j]? = env[j]? := fun j n => List.getElem?_set_ne n.symm
  have self : (σ.set i (some v))[i]? = some (some v) := List.getElem?_set_self his
  have self' : (env.set i (some o))[i]? = some (some o) := List.getElem?_set_self hi
  refine ⟨by rw [List.length_set, List.length_set]; exact S.len, S.ent, S.gr, fun j d e => ?_, fun j ds e => ?_, fun j k ds es l e1 e2 e3 e4 => ?_⟩
  · by_cases z : j = i
    · rw [z, self'] at e
      simp only [Option.some.injEq] at e
      subst e
      exact ⟨v, by rw [z]; exact self, w⟩
    · rw [ne' j z] at e
      rw [ne j z]
      exact S.slot j d e
  · by_cases z : j = i
    · rw [z, self'] at e
      simp only [Option.some.injEq] at e
      subst e
      obtain ⟨l, vs, rfl, h2, h3, h4, h5⟩ := w
      exact ⟨l, vs, by rw [z]; exact self, h2, .inl (hs l h3), h4, h5⟩
    · rw [ne' j z] at e
      rw [ne j z]
      exact S.own j ds e
  · have no : ∀ k es, k ≠ i → env[k]? = some (some (.lst es)) → σ[k]? = some (some (.ref l)) → ∀ ds, o = .lst ds → v = .ref l → False := fun k es n q1 q2 ds eo ev => by
      subst eo
      obtain ⟨l', vs, e', h2, h3, _⟩ := w
      rw [ev] at e'
      cases e'
      exact hoa l ⟨k, es, q1, q2⟩ h3
    by_cases z1 : j = i
    · by_cases z2 : k = i
      · rw [z1, z2]
      · rw [z1, self'] at e1
        rw [z1, self] at e3
        simp only [Option.some.injEq] at e1 e3
        rw [ne' k z2] at e2
        rw [ne k z2] at e4
        exact (no k es z2 e2 e4 ds e1 e3).elim
    · rw [ne' j z1] at e1
      rw [ne j z1] at e3
      by_cases z2 : k = i
      · rw [z2, self'] at e2
        rw [z2, self] at e4
        simp only [Option.some.injEq] at e2 e4
        exact (no j ds z1 e1 e3 es e2 e4).elim
      · rw [ne' k z2] at e2
        rw [ne k z2] at e4
        exact S.dist j k ds es l e1 e2 e3 e4
theorem SD.h0 {σ : L2.St} {H B : Hp} {env : DEnv} (S : SD F σ H B env) : ∀ a, H a = none → F.H0 a = none := fun a z => (S.fresh z).1
def setE (env : DEnv) (i : Nat) (o : Ow) : Option DEnv := if Nat.blt i env.length then some (env.set i (some o)) else none
theorem setE_ok {env env' : DEnv} {i : Nat} {o : Ow} (h : setE env i o = some env') : i < env.length ∧ env' = env.set i (some o) := by
  unfold setE at h
  split at h
  · rename_i hb
    simp only [Option.some.injEq] at h
    exact ⟨Nat.le_of_ble_eq_true hb, h.symm⟩
  · cases h
/-- x = e -/
def sSet (i : Nat) (f : Fe) : Fs := fun env => match f env with
  | none => none
  | some (o, e) => match setE e i o with
    | some e' => some (.nx e')
    | none => none
theorem es_set {i : Nat} (h : ED F te f) : ES F (tAsg te (gName i)) (sSet i f) := by
  intro σ H B env o S e D P
  unfold sSet at e
  cases h1 : f env with
  | none => rw [h1] at e; cases e
  | some p =>
    obtain ⟨w, e1⟩ := p
    rw [h1] at e
    dsimp only at e
    cases h2 : setE e1 i w with
    | none => rw [h2] at e; cases e
    | some e2 =>
      rw [h2] at e
      simp only [Option.some.injEq] at e
      subst e
      obtain ⟨hi, rfl⟩ := setE_ok h2
      refine h σ H B env w e1 S h1 _ fun v H' B' L k => ?_
      exact P _ _ B' L.stp.bb (L.sd.put i hi (fun a z => S.oa_ne a (L.oa a z)) S.h0 k)
/-- return e -/
def sRet (f : Fe) : Fs := fun env => match pur f env with
  | some (d, e) => some (.rt d e)
  | none => none
theorem es_ret (h : ED F te f) : ES F (tRet te) (sRet f) := by
  intro σ H B env o S e D P
  unfold sRet at e
  cases h1 : DL.pur f env with
  | none => rw [h1] at e; cases e
  | some p =>
    obtain ⟨d, e1⟩ := p
    rw [h1] at e
    simp only [Option.some.injEq] at e
    subst e
    exact h.pur σ H B env d e1 S h1 _ fun v H' B' L r => P v σ H' B' L.stp.bb L.sd r
def sRetN : Fs := fun env => some (.rt .non env)
theorem es_retN : ES F tRetN sRetN := by
  intro σ H B env o S e D P
  simp only [sRetN, Option.some.injEq] at e
  subst e
  exact P .non σ H B Gr.refl S .non
def sIf (c : Ft) (f g : Fs) : Fs := fun env => match c env with
  | none => none
  | some (b, e) => if b then f e else g e
theorem es_if (h : EB F tt c) (k1 : ES F ts fs) (k2 : ES F tu gs) : ES F (tIfS tt ts tu) (sIf c fs gs) := by
  intro σ H B env o S e D P
  unfold sIf at e
  cases h1 : c env with
  | none => rw [h1] at e; cases e
  | some p =>
    obtain ⟨b, e1⟩ := p
    rw [h1] at e
    refine h σ H B env b e1 S h1 _ fun H1 B1 L1 => ?_
    cases b with
    | true => exact k1 σ H1 B1 e1 o L1.sd e D (P.up L1.stp.bb)
    | false => exact k2 σ H1 B1 e1 o L1.sd e D (P.up L1.stp.bb)
/-- e; -/
def sDrop (f : Fe) : Fs := fun env => match f env with
  | some (_, e) => some (.nx e)
  | none => none
theorem es_drop (h : ED F te f) : ES F (tDrop te) (sDrop f) := by
  intro σ H B env o S e D P
  unfold sDrop at e
  cases h1 : f env with
  | none => rw [h1] at e; cases e
  | some p =>
    obtain ⟨w, e1⟩ := p
    rw [h1] at e
    simp only [Option.some.injEq] at e
    subst e
    exact h σ H B env w e1 S h1 _ fun v H' B' L k => P σ H' B' L.stp.bb L.sd
/-- x op= e, x data -/
def sAug (i : Nat) (g : Dt → Dt → Option Ow) (f : Fe) : Fs := fun env => match env[i]? with
  | some (some (.sh x)) => match pur f env with
    | none => none
    | some (y, e1) => match g x y with
      | none => none
      | some o => match setE e1 i o with
        | some e2 => some (.nx e2)
        | none => none
  | _ => none
theorem es_aug {i : Nat} {r : TIp} {g : Dt → Dt → Option Ow} (h : ED F te f) (hr : RD2 F r g) : ES F (tAug i te r) (sAug i g f) := by
  intro σ H B env o S e D P
  unfold sAug at e
  split at e
  · rename_i x hx
    cases h1 : DL.pur f env with
    | none => rw [h1] at e; cases e
    | some p =>
      obtain ⟨y, e1⟩ := p
      rw [h1] at e
      dsimp only at e
      cases h2 : g x y with
      | none => rw [h2] at e; cases e
      | some w =>
        rw [h2] at e
        dsimp only at e
        cases h3 : setE e1 i w with
        | none => rw [h3] at e; cases e
        | some e2 =>
          rw [h3] at e
          simp only [Option.some.injEq] at e
          subst e
          obtain ⟨hi, rfl⟩ := setE_ok h3
          obtain ⟨v, k1, k2⟩ := S.slot i x hx
          refine ⟨v, k1, h.pur σ H B env y e1 S h1 _ fun u H1 B1 L1 r1 => ?_⟩
          refine hr H1 B1 v u x y w L1.sd.gr (k2.up L1.stp.bb) r1 h2 _ fun z H2 B2 t g2 w2 => ?_
          have L2 := L1.trans (Lft.of L1.sd t g2)
          exact P _ _ B2 L2.stp.bb (L2.sd.put i hi (fun a z => S.oa_ne a (L2.oa a z)) S.h0 (w2.since L1.stp.th))
  · cases e
/-- x.append(e), x a list of one's own -/
def sApp (i : Nat) (f : Fe) : Fs := fun env => match env[i]? with
  | some (some (.lst _)) => match pur f env with
    | none => none
    | some (d, e1) => match e1[i]? with
      | some (some (.lst ds)) => if Nat.blt ds.length 16777216 then some (.nx (e1.set i (some (.lst (ds ++ [d]))))) else none
      | _ => none
  | _ => none
/-- the list of a slot is changed -/
theorem SD.mut {σ : L2.St} {H B : Hp} {env : DEnv} {i : Nat} {ds es : List Dt} {l : Addr} {ws : List V} (S : SD F σ H B env) (e : env[i]? = some (some (.lst ds))) (el : σ[i]? = some (some (.ref l))) (r : Rps F.K B ws es) :
    SD F σ (upd H l (.lst ws)) B (env.set i (some (.lst es))) := by
  obtain ⟨l', vs, h1, h2, h3, h4, h5⟩ := S.own i ds e
  rw [el] at h1
  cases h1
  have hi : i < env.length := (List.getElem?_eq_some_iff.mp e).1
  have self : (env.set i (some (.lst es)))[i]? = some (some (.lst es)) := List.getElem?_set_self hi
  have ne' : ∀ j, j ≠ i → (env.set i (some (.lst es)))[j]? = env[j]? := fun j n => List.getElem?_set_ne n.symm
  have toL : ∀ (j : Nat) (x : List Dt), (env.set i (some (.lst es)))[j]? = some (some (.lst x)) → ∃ y, env[j]? = some (some (.lst y)) := fun j x q => by
    by_cases z : j = i
    · rw [z]
      exact ⟨ds, e⟩
    · rw [ne' j z] at q
      exact ⟨x, q⟩
  have stp : Stp (fun a => a = l) B H B (upd H l (.lst ws)) := by
    refine ⟨Gr.refl, fun _ q _ _ => q, fun a u q _ n => by rw [upd_ne n]; exact q, fun a q => ?_, fun p ⟨ps, q, k⟩ => ⟨ps, ?_, k⟩, fun _ _ q => q⟩
    · unfold upd
      split
      · exact fun z => by cases z
      · exact q
    · rw [upd_ne (fun z => by rw [z, h4] at q; cases q)]
      exact q
  refine ⟨by rw [List.length_set]; exact S.len, S.ent.trans stp fun a z => by rw [z]; exact h3.symm, fun a u q => ?_, fun j d q => ?_, fun j x q => ?_, fun j k x y l' q1 q2 => ?_⟩
  · rw [upd_ne (fun z => by rw [z, h2] at q; cases q)]
    exact S.gr a u q
  · by_cases z : j = i
    · rw [z, self] at q
      cases q
    · rw [ne' j z] at q
      exact S.slot j d q
  · by_cases z : j = i
    · rw [z, self] at q
      simp only [Option.some.injEq, Ow.lst.injEq] at q
      subst q
      exact ⟨l, ws, by rw [z]; exact el, h2, h3, upd_same, r⟩
    · rw [ne' j z] at q
      obtain ⟨l', vs', k1, k2, k3, k4, k5⟩ := S.own j x q
      refine ⟨l', vs', k1, k2, k3, ?_, k5⟩
      rw [upd_ne (fun w => z (S.dist j i x ds l' q e k1 (by rw [w]; exact el)))]
      exact k4
  · obtain ⟨x', q1'⟩ := toL j x q1
    obtain ⟨y', q2'⟩ := toL k y q2
    exact S.dist j k x' y' l' q1' q2'
theorem es_app {i : Nat} (h : ED F te f) : ES F (tDrop (tBM F.K "list" rAppend (tVar i) (tCons te tNil))) (sApp i f) := by
  intro σ H B env o S e D P
  unfold sApp at e
  split at e
  · rename_i ds0 hx
    obtain ⟨l, vs0, k1, k2, k3, k4, k5⟩ := S.own i ds0 hx
    cases h1 : DL.pur f env with
    | none => rw [h1] at e; cases e
    | some p =>
      obtain ⟨d, e1⟩ := p
      rw [h1] at e
      dsimp only at e
      split at e
      · rename_i ds hds
        split at e
        · rename_i hz
          simp only [Option.some.injEq] at e
          subst e
          refine ⟨.ref l, k1, .inl ⟨rfl, vs0, .inl (.inl k4)⟩, h.pur σ H B env d e1 S h1 _ fun u H1 B1 L1 r1 => ?_⟩
          obtain ⟨l', vs, m1, m2, m3, m4, m5⟩ := L1.sd.own i ds hds
          rw [k1] at m1
          cases m1
          refine ⟨l, vs, u, rfl, rfl, m4, by rw [m5.length]; exact Nat.le_of_ble_eq_true hz, ?_⟩
          exact P _ _ B1 L1.stp.bb (L1.sd.mut hds k1 (m5.app (.cons r1 .nil)))
        · cases e
      · cases e
  · cases e
/-! ### targets -/
/-- two rows of slots are alike but at some places -/
def Agr (is : List Nat) (σ σ' : L2.St) : Prop := σ'.length = σ.length ∧ ∀ j, j ∉ is → σ'[j]? = σ[j]?
theorem Agr.trans {is js : List Nat} {σ σ1 σ2 : L2.St} (a : Agr is σ σ1) (b : Agr js σ1 σ2) : Agr (is ++ js) σ σ2 :=
  ⟨b.1.trans a.1, fun j n => by
    rw [List.mem_append, not_or] at n
    rw [b.2 j n.2, a.2 j n.1]⟩
abbrev Fg := Dt → DEnv → Option DEnv
def EG (F : Act) (g : TG) (fg : Fg) (is : List Nat) : Prop := ∀ (σ : L2.St) (H B : Hp) (env : DEnv) (v : V) (d : Dt) (env' : DEnv), SD F σ H B env → Rp F.K B v d → fg d env = some env' →
  ∀ Q : L2.St → Hp → Prop, (∀ σ' : L2.St, Agr is σ σ' → (∀ a, OA σ' env' a → OA σ env a) → SD F σ' H B env' → Q σ' H) → g v σ H Q
def gN (i : Nat) : Fg := fun d env => setE env i (.sh d)
theorem eg_name {i : Nat} : EG F (gName i) (gN i) [i] := by
  intro σ H B env v d env' S r e Q q
  obtain ⟨hi, rfl⟩ := setE_ok e
  refine q _ ⟨by rw [List.length_set], fun j n => ?_⟩ (fun a ⟨k, ds, q1, q2⟩ => ?_) (S.put (Hs := H) i hi S.oa_ne S.h0 (o := .sh d) r)
  · rw [List.getElem?_set_ne]
    exact fun z => n (by rw [z]; exact List.mem_cons_self)
  · by_cases z : k = i
    · rw [z, List.getElem?_set_self hi] at q1
      cases q1
    · rw [List.getElem?_set_ne (fun w => z w.symm)] at q1 q2
      exact ⟨k, ds, q1, q2⟩
abbrev Fgs := List Dt → DEnv → Option DEnv
def EGs (F : Act) (g : TGs) (fg : Fgs) (is : List Nat) : Prop := ∀ (σ : L2.St) (H B : Hp) (env : DEnv) (vs : List V) (ds : List Dt) (env' : DEnv), SD F σ H B env → Rps F.K B vs ds → fg ds env = some env' →
  ∀ Q : L2.St → Hp → Prop, (∀ σ' : L2.St, Agr is σ σ' → (∀ a, OA σ' env' a → OA σ env a) → SD F σ' H B env' → Q σ' H) → g vs σ H Q
def gsNil : Fgs := fun ds env => match ds with
  | [] => some env
  | _ => none
def gsCons (g : Fg) (k : Fgs) : Fgs := fun ds env => match ds with
  | d :: r => match g d env with
    | some e => k r e
    | none => none
  | [] => none
theorem egs_nil : EGs F gNil gsNil [] := by
  intro σ H B env vs ds env' S r e Q q
  unfold gsNil at e
  split at e
  · simp only [Option.some.injEq] at e
    subst e
    cases r
    exact ⟨rfl, q σ ⟨rfl, fun _ _ => rfl⟩ (fun _ z => z) S⟩
  · cases e
theorem egs_cons {g : TG} {gs' : TGs} {fg : Fg} {k : Fgs} {is js : List Nat} (h : EG F g fg is) (hk : EGs F gs' k js) : EGs F (gCons g gs') (gsCons fg k) (is ++ js) := by
  intro σ H B env vs ds env' S r e Q q
  unfold gsCons at e
  split at e
  · rename_i d dr
    cases h1 : fg d env with
    | none => rw [h1] at e; cases e
    | some e1 =>
      rw [h1] at e
      cases r with
      | cons r1 r2 =>
        refine ⟨_, _, rfl, h σ H B env _ d e1 S r1 h1 _ fun σ1 a1 o1 S1 => ?_⟩
        exact hk σ1 H B e1 _ dr env' S1 r2 e Q fun σ2 a2 o2 S2 => q σ2 (a1.trans a2) (fun a z => o1 a (o2 a z)) S2
  · cases e
def gT (n : Nat) (k : Fgs) : Fg := fun d env => match d with
  | .tup ds => if Nat.beq ds.length n then k ds env else none
  | _ => none
theorem eg_tup {n : Nat} {g : TGs} {k : Fgs} {is : List Nat} (h : EGs F g k is) : EG F (gTup F.K n g) (gT n k) is := by
  intro σ H B env v d env' S r e Q q
  unfold gT at e
  split at e
  · split at e
    · rename_i hn
      cases r with
      | tup h1 r1 => exact ⟨_, _, rfl, S.gr.sqT h1, by rw [r1.length]; exact Nat.eq_of_beq_eq_true hn, h σ H B env _ _ env' S r1 e Q q⟩
    · cases e
  · cases e
/-- a, b = e -/
def sUnp (f : Fe) (g : Fg) : Fs := fun env => match pur f env with
  | none => none
  | some (d, e) => match g d e with
    | some e' => some (.nx e')
    | none => none
theorem es_unp {g : TG} {fg : Fg} {is : List Nat} (h : ED F te f) (k : EG F g fg is) : ES F (tAsg te g) (sUnp f fg) := by
  intro σ H B env o S e D P
  unfold sUnp at e
  cases h1 : DL.pur f env with
  | none => rw [h1] at e; cases e
  | some p =>
    obtain ⟨d, e1⟩ := p
    rw [h1] at e
    dsimp only at e
    cases h2 : fg d e1 with
    | none => rw [h2] at e; cases e
    | some e2 =>
      rw [h2] at e
      simp only [Option.some.injEq] at e
      subst e
      exact h.pur σ H B env d e1 S h1 _ fun v H1 B1 L1 r1 => k σ H1 B1 e1 v d e2 L1.sd r1 h2 _ fun σ' _ _ S' => P σ' H1 B1 L1.stp.bb S'
/-- a, b = x, y by swapped stores -/
def isSh : Ow → Bool
  | .sh _ => true
  | .lst _ => false
theorem isSh_ok {o : Ow} (h : isSh o = true) : ∃ d, o = .sh d := by
  cases o with
  | sh d => exact ⟨d, rfl⟩
  | lst ds => cases h
def sPar (i j : Nat) (fa : Fa) : Fs := fun env => match fa env with
  | some ([o, p], e) => match setE e i o with
    | none => none
    | some e1 => match setE e1 j p with
      | some e2 => if Nat.beq i j then none else if isSh o || isSh p then some (.nx e2) else none
      | none => none
  | _ => none
theorem es_par {i j : Nat} {ta : TA} {fa : Fa} (h : EA F ta fa) : ES F (tPar i j ta) (sPar i j fa) := by
  intro σ H B env o S e D P
  unfold sPar at e
  split at e
  · rename_i a b e0 h1
    cases h2 : setE e0 i a with
    | none => rw [h2] at e; cases e
    | some e1 =>
      rw [h2] at e
      dsimp only at e
      cases h3 : setE e1 j b with
      | none => rw [h3] at e; cases e
      | some e2 =>
        rw [h3] at e
        dsimp only at e
        split at e
        · cases e
        · rename_i hij
          split at e
          rotate_left
          · cases e
          rename_i hsh
          have hd : (∃ d, a = .sh d) ∨ ∃ d, b = .sh d := by
            rw [Bool.or_eq_true] at hsh
            exact hsh.imp isSh_ok isSh_ok
          simp only [Option.some.injEq] at e
          subst e
          obtain ⟨hi, rfl⟩ := setE_ok h2
          obtain ⟨hj, rfl⟩ := setE_ok h3
          refine h σ H B env _ e0 S h1 _ fun vs H1 B1 L1 ws => ?_
          cases ws with
          | cons w1 t1 =>
            cases t1 with
            | cons w2 t2 =>
              cases t2
              rename_i v w
              refine ⟨v, w, rfl, ?_⟩
              have nij : i ≠ j := fun z => hij (by rw [z]; exact Nat.beq_refl j)
              have S1 := L1.sd.put i hi (fun a z => S.oa_ne a (L1.oa a z)) S.h0 w1
              rcases hd with ⟨d, rfl⟩ | ⟨d, rfl⟩
              · refine P _ _ B1 L1.stp.bb (S1.put j hj (fun a ⟨k, ds, q1, q2⟩ => ?_) S.h0 w2)
                by_cases z : k = i
                · rw [z, List.getElem?_set_self hi] at q1
                  cases q1
                · rw [List.getElem?_set_ne (fun w => z w.symm)] at q1 q2
                  exact S.oa_ne a (L1.oa a ⟨k, ds, q1, q2⟩)
              · exact P _ _ B1 L1.stp.bb (S1.put (Hs := H1) j hj S1.oa_ne L1.sd.h0 (o := .sh d) w2)
  · cases e
end
end DL
set_option Elab.async false
set_option linter.all false
set_option maxRecDepth 100000
/-! DL7: loops, comprehensions, the promise of a def -/
namespace DL
open PySem PySem.Spec PyProof.Rows L2
section
variable {F : Act} {te : TE} {tt : TT} {ts tu : TS} {f : Fe} {c : Ft} {fs gs : Fs}
/-- while c: body, so many turns at most -/
def whF (c : Ft) (fs : Fs) : Nat → Fs
  | 0, _ => none
  | n + 1, env => match c env with
    | none => none
    | some (b, e) => if b then match fs e with
        | some (.nx e') => whF c fs n e'
        | some (.ct e') => whF c fs n e'
        | some (.bk e') => some (.nx e')
        | some (.rt d e') => some (.rt d e')
        | none => none
      else some (.nx e)
theorem es_while {n : Nat} (hc : EB F tt c) (hs : ES F ts fs) : ES F (tWhile tt ts) (whF c fs n) := by
  intro σ H B env o S e D P
  refine ⟨fun m σ1 H1 => ∃ B1 env1, Gr B B1 ∧ SD F σ1 H1 B1 env1 ∧ whF c fs m env1 = some o, ⟨n, B, env, Gr.refl, S, e⟩, fun m σ1 H1 hW => ?_⟩
  obtain ⟨B1, env1, g1, S1, e1⟩ := hW
  cases m with
  | zero => cases e1
  | succ m =>
    simp only [whF] at e1
    cases h1 : c env1 with
    | none => rw [h1] at e1; cases e1
    | some p =>
      obtain ⟨b, e2⟩ := p
      rw [h1] at e1
      dsimp only at e1
      refine hc σ1 H1 B1 env1 b e2 S1 h1 _ fun H2 B2 L2 => ?_
      have g2 := g1.trans L2.stp.bb
      cases b with
      | false =>
        simp only [Bool.false_eq_true, if_false, Option.some.injEq] at e1 ⊢
        subst e1
        exact P σ1 H2 B2 g2 L2.sd
      | true =>
        simp only [if_true] at e1 ⊢
        refine ⟨fun σ3 H3 => ∃ B3 env3, Gr B B3 ∧ SD F σ3 H3 B3 env3 ∧ whF c fs m env3 = some o, fun σ3 H3 h3 => ⟨m, Nat.lt_succ_self m, h3⟩, ?_⟩
        cases h2 : fs e2 with
        | none => rw [h2] at e1; cases e1
        | some o2 =>
          rw [h2] at e1
          refine hs σ1 H2 B2 e2 o2 L2.sd h2 _ ?_
          cases o2 with
          | nx e3 => exact fun σ' H' B' g S' => ⟨B', e3, g2.trans g, S', e1⟩
          | ct e3 => exact fun σ' H' B' g S' => ⟨B', e3, g2.trans g, S', e1⟩
          | bk e3 =>
            simp only [Option.some.injEq] at e1
            subst e1
            exact fun σ' H' B' g S' => P σ' H' B' (g2.trans g) S'
          | rt d e3 =>
            simp only [Option.some.injEq] at e1
            subst e1
            exact fun v σ' H' B' g S' r => P v σ' H' B' (g2.trans g) S' r
/-! ### what a for walks -/
/-- J gives the data of ds, one after another -/
def ItOk (F : Act) (J : It) (B : Hp) (ds : List Dt) : Prop := ∃ (G : Hp → Prop) (Y : Nat → Hp → V → Hp → Prop), Walk J ds.length G Y ∧ (∀ B2 H2 : Hp, Gr B B2 → Gr B2 H2 → G H2) ∧
  ∀ (i : Nat) (d : Dt) (B2 H2 : Hp) (x : V) (H3 : Hp), ds[i]? = some d → Gr B B2 → Gr B2 H2 → Y i H2 x H3 → ∃ B3, Stp (fun _ => False) B2 H2 B3 H3 ∧ Gr B3 H3 ∧ Rp F.K B3 x d
def EI (F : Act) (wi : TI) (fi : Fq) : Prop := ∀ (σ : L2.St) (H B : Hp) (env : DEnv) (ds : List Dt) (env' : DEnv), SD F σ H B env → fi env = some (ds, env') →
  ∀ R : It → Hp → Prop, (∀ (J : It) (H' B' : Hp), Lft F σ H B env H' B' env' → ItOk F J B' ds → R J H') → wi σ H R
/-- a list, a tuple, a text -/
def iL (f : Fe) : Fq := fun env => match pur f env with
  | some (.lst ds, e) => some (ds, e)
  | _ => none
def iT (f : Fe) : Fq := fun env => match pur f env with
  | some (.tup ds, e) => some (ds, e)
  | _ => none
def iS (f : Fe) : Fq := fun env => match pur f env with
  | some (.str s, e) => some (s.map fun c => .str [c], e)
  | _ => none
theorem ei_list (h : ED F te f) : EI F (iList F.K te) (iL f) := by
  intro σ H B env ds env' S e R q
  unfold iL at e
  split at e
  · rename_i ds' e1 h1
    simp only [Option.some.injEq, Prod.mk.injEq] at e
    obtain ⟨rfl, rfl⟩ := e
    refine h.pur σ H B env _ e1 S h1 _ fun v H1 B1 L1 r1 => ?_
    cases r1 with
    | lst k1 k2 =>
      rename_i a xs
      refine ⟨a, rfl, ⟨xs, L1.sd.gr.sqL k1⟩, q _ H1 B1 L1 ⟨_, _, by rw [← k2.length]; exact walk_list (K := F.K) (a := a) (xs := xs), fun B2 H2 g1 g2 => g2.sqL (g1.sqL k1), fun i d B2 H2 x H3 hd g1 g2 hy => ?_⟩⟩
      obtain ⟨rfl, hx⟩ := hy
      obtain ⟨v, m1, m2⟩ := k2.get hd
      rw [hx] at m1
      cases m1
      exact ⟨B2, Stp.refl, g2, m2.up g1⟩
  · cases e
theorem ei_tup (h : ED F te f) : EI F (iTup F.K te) (iT f) := by
  intro σ H B env ds env' S e R q
  unfold iT at e
  split at e
  · rename_i ds' e1 h1
    simp only [Option.some.injEq, Prod.mk.injEq] at e
    obtain ⟨rfl, rfl⟩ := e
    refine h.pur σ H B env _ e1 S h1 _ fun v H1 B1 L1 r1 => ?_
    cases r1 with
    | tup k1 k2 =>
      rename_i a xs
      refine ⟨a, rfl, ⟨xs, L1.sd.gr.sqT k1⟩, q _ H1 B1 L1 ⟨_, _, by rw [← k2.length]; exact walk_tup (K := F.K) (a := a) (xs := xs), fun B2 H2 g1 g2 => g2.sqT (g1.sqT k1), fun i d B2 H2 x H3 hd g1 g2 hy => ?_⟩⟩
      obtain ⟨rfl, hx⟩ := hy
      obtain ⟨v, m1, m2⟩ := k2.get hd
      rw [hx] at m1
      cases m1
      exact ⟨B2, Stp.refl, g2, m2.up g1⟩
  · cases e
theorem ei_str (h : ED F te f) : EI F (iStr te) (iS f) := by
  intro σ H B env ds env' S e R q
  unfold iS at e
  split at e
  · rename_i s e1 h1
    simp only [Option.some.injEq, Prod.mk.injEq] at e
    obtain ⟨rfl, rfl⟩ := e
    refine h.pur σ H B env _ e1 S h1 _ fun v H1 B1 L1 r1 => ?_
    cases r1
    have hw := walk_str (z := ⟨s.toArray⟩)
    refine ⟨_, rfl, q _ H1 B1 L1 ⟨_, _, by rw [List.length_map]; exact (by simpa using hw), fun B2 H2 _ _ => trivial, fun i d B2 H2 x H3 hd g1 g2 hy => ?_⟩⟩
    obtain ⟨rfl, c, hc, rfl⟩ := hy
    rw [List.getElem?_map] at hd
    have hc2 : s[i]? = some c := by simpa using hc
    rw [hc2] at hd
    simp only [Option.map_some, Option.some.injEq] at hd
    subst hd
    exact ⟨B2, Stp.refl, g2, Rp.str [c]⟩
  · cases e
/-- range(n), range(a, b) -/
def rngD (lo : Int) (n : Nat) : List Dt := (List.range n).map fun i => .int (lo + (i : Nat))
def iR1 (fq : Fq) : Fq := fun env => match fq env with
  | some ([.int j], e) => if ibd 1000000000 j then some (rngD 0 j.toNat, e) else none
  | _ => none
def iR2 (fq : Fq) : Fq := fun env => match fq env with
  | some ([.int i, .int j], e) => if ibd 1000000000 i && ibd 1000000000 j then some (rngD i (j - i).toNat, e) else none
  | _ => none
theorem itok_range {B : Hp} {lo : Int} {n : Nat} : ItOk F (Itr lo n) B (rngD lo n) := by
  refine ⟨_, _, by rw [show (rngD lo n).length = n by simp [rngD]]; exact walk_range, fun _ _ _ _ => trivial, fun i d B2 H2 x H3 hd g1 g2 hy => ?_⟩
  obtain ⟨rfl, rfl⟩ := hy
  have hn : i < n := by
    have := (List.getElem?_eq_some_iff.mp hd).1
    simpa [rngD] using this
  have e : (rngD lo n)[i]? = some (.int (lo + (i : Nat))) := by simp [rngD, hn]
  rw [hd] at e
  simp only [Option.some.injEq] at e
  subst e
  exact ⟨B2, Stp.refl, g2, Rp.int _⟩
theorem ei_r1 {ta : TA} {fq : Fq} (h : EQ F ta fq) : EI F (iRng1 ta) (iR1 fq) := by
  intro σ H B env ds env' S e R q
  unfold iR1 at e
  split at e
  · rename_i j e1 h1
    split at e
    · rename_i hj
      have hj := ibd_ok hj
      simp only [Option.some.injEq, Prod.mk.injEq] at e
      obtain ⟨rfl, rfl⟩ := e
      refine h σ H B env _ e1 S h1 _ fun vs H1 B1 L1 r1 => ?_
      obtain ⟨v, rfl, rv⟩ := rps1 r1
      cases rv
      exact ⟨j, rfl, by omega, by omega, q _ H1 B1 L1 itok_range⟩
    · cases e
  · cases e
theorem ei_r2 {ta : TA} {fq : Fq} (h : EQ F ta fq) : EI F (iRng2 ta) (iR2 fq) := by
  intro σ H B env ds env' S e R q
  unfold iR2 at e
  split at e
  · rename_i i j e1 h1
    split at e
    · rename_i hj
      rw [Bool.and_eq_true] at hj
      have hi1 := ibd_ok hj.1
      have hj := ibd_ok hj.2
      simp only [Option.some.injEq, Prod.mk.injEq] at e
      obtain ⟨rfl, rfl⟩ := e
      refine h σ H B env _ e1 S h1 _ fun vs H1 B1 L1 r1 => ?_
      obtain ⟨v, w, rfl, rv, rw'⟩ := rps2 r1
      cases rv; cases rw'
      exact ⟨i, j, rfl, ⟨by omega, by omega, by omega, by omega⟩, q _ H1 B1 L1 itok_range⟩
    · cases e
  · cases e
/-! ### for -/
def forF (fg : Fg) (fs : Fs) : List Dt → Fs
  | [], env => some (.nx env)
  | d :: ds, env => match fg d env with
    | none => none
    | some e => match fs e with
      | some (.nx e') => forF fg fs ds e'
      | some (.ct e') => forF fg fs ds e'
      | some (.bk e') => some (.nx e')
      | some (.rt d' e') => some (.rt d' e')
      | none => none
def sFor (fi : Fq) (fg : Fg) (fs : Fs) : Fs := fun env => match fi env with
  | some (ds, e) => forF fg fs ds e
  | none => none
theorem es_for {wi : TI} {g : TG} {fi : Fq} {fg : Fg} {is : List Nat} (hi : EI F wi fi) (hg : EG F g fg is) (hs : ES F ts fs) : ES F (tFor wi g ts) (sFor fi fg fs) := by
  intro σ H B env o S e D P
  unfold sFor at e
  cases h1 : fi env with
  | none => rw [h1] at e; cases e
  | some p =>
    obtain ⟨ds, e0⟩ := p
    rw [h1] at e
    dsimp only at e
    refine hi σ H B env ds e0 S h1 _ fun J H0 B0 L0 hJ => ?_
    obtain ⟨G, Y, hw, hG, hY⟩ := hJ
    refine for_it hw (fun i σ1 H1 => ∃ B1 env1, Gr B0 B1 ∧ SD F σ1 H1 B1 env1 ∧ ((∃ o1, forF fg fs (ds.drop i) env1 = some o1 ∧ o1 = o) ∨ False)) ⟨B0, e0, Gr.refl, L0.sd, .inl ⟨o, e, rfl⟩⟩ (fun i σ1 H1 hi ⟨B1, env1, g1, S1, _⟩ => hG B1 H1 g1 S1.gr) (fun i x σ1 H1 H2 hi ⟨B1, env1, g1, S1, hf⟩ hy => ?_) (fun σ1 H1 ⟨B1, env1, g1, S1, hf⟩ => ?_)
    · rcases hf with ⟨o1, hf, rfl⟩ | z
      rotate_left
      · exact z.elim
      have hd : ds[i]? = some ds[i] := List.getElem?_eq_getElem hi
      rw [List.drop_eq_getElem_cons hi] at hf
      simp only [forF] at hf
      cases h2 : fg ds[i] env1 with
      | none => rw [h2] at hf; cases hf
      | some e2 =>
        rw [h2] at hf
        dsimp only at hf
        obtain ⟨B2, t2, g2, r2⟩ := hY i _ B1 H1 x H2 hd g1 S1.gr hy
        refine hg σ1 H2 B2 env1 x _ e2 (S1.step t2 g2) r2 h2 _ fun σ2 _ _ S2 => ?_
        have g12 := g1.trans t2.bb
        cases h3 : fs e2 with
        | none => rw [h3] at hf; cases hf
        | some o3 =>
          rw [h3] at hf
          refine hs σ2 H2 B2 e2 o3 S2 h3 _ ?_
          cases o3 with
          | nx e4 => exact fun σ' H' B' g S' => ⟨B', e4, g12.trans g, S', .inl ⟨o1, hf, rfl⟩⟩
          | ct e4 => exact fun σ' H' B' g S' => ⟨B', e4, g12.trans g, S', .inl ⟨o1, hf, rfl⟩⟩
          | bk e4 =>
            simp only [Option.some.injEq] at hf
            subst hf
            exact fun σ' H' B' g S' => P σ' H' B' (L0.stp.bb.trans (g12.trans g)) S'
          | rt d e4 =>
            simp only [Option.some.injEq] at hf
            subst hf
            exact fun v σ' H' B' g S' r => P v σ' H' B' (L0.stp.bb.trans (g12.trans g)) S' r
    · rcases hf with ⟨o1, hf, rfl⟩ | z
      rotate_left
      · exact z.elim
      rw [List.drop_length] at hf
      simp only [forF, Option.some.injEq] at hf
      subst hf
      exact P σ1 H1 B1 (L0.stp.bb.trans g1) S1
/-! ### comprehensions -/
def wipeE (env : DEnv) : List Nat → DEnv
  | [] => env
  | v :: vs => (wipeE env vs).set v none
theorem wipeE_length (env : DEnv) : ∀ vs : List Nat, (wipeE env vs).length = env.length
  | [] => rfl
  | v :: vs => by
    simp only [wipeE, List.length_set]
    exact wipeE_length env vs
theorem wipeE_some {env : DEnv} {i : Nat} {o : Ow} : ∀ {vs : List Nat}, (wipeE env vs)[i]? = some (some o) → env[i]? = some (some o) ∧ i ∉ vs
  | [], h => ⟨h, by simp⟩
  | v :: vs, h => by
    simp only [wipeE] at h
    by_cases z : i = v
    · subst z
      by_cases q : i < (wipeE env vs).length
      · rw [List.getElem?_set_self q] at h
        cases h
      · rw [List.getElem?_eq_none (by rw [List.length_set]; omega)] at h
        cases h
    · rw [List.getElem?_set_ne (fun w => z w.symm)] at h
      obtain ⟨h1, h2⟩ := wipeE_some h
      exact ⟨h1, by simp [z, h2]⟩
theorem wipe_get {σ : L2.St} {i : Nat} : ∀ {vs : List Nat}, i ∉ vs → (wipe σ vs)[i]? = σ[i]?
  | [], _ => rfl
  | v :: vs, h => by
    have h1 : i ≠ v := fun z => h (by rw [z]; exact List.mem_cons_self)
    have h2 : i ∉ vs := fun z => h (List.mem_cons_of_mem _ z)
    unfold wipe
    rw [List.getElem?_set_ne (fun w => h1 w.symm)]
    exact wipe_get h2
theorem SD.wiped {σ : L2.St} {H B : Hp} {env : DEnv} (S : SD F σ H B env) (vs : List Nat) : SD F (wipe σ vs) H B (wipeE env vs) := by
  refine ⟨by rw [wipe_length, wipeE_length]; exact S.len, S.ent, S.gr, fun i d e => ?_, fun i ds e => ?_, fun i j ds es l e1 e2 e3 e4 => ?_⟩
  · obtain ⟨h1, h2⟩ := wipeE_some e
    rw [wipe_get h2]
    exact S.slot i d h1
  · obtain ⟨h1, h2⟩ := wipeE_some e
    rw [wipe_get h2]
    exact S.own i ds h1
  · obtain ⟨h1, h2⟩ := wipeE_some e1
    obtain ⟨h3, h4⟩ := wipeE_some e2
    rw [wipe_get h2] at e3
    rw [wipe_get h4] at e4
    exact S.dist i j ds es l h1 h3 e3 e4
theorem wipe_agr {vs is : List Nat} {σ σ' : L2.St} (a : Agr is σ σ') (h : ∀ j ∈ is, j ∈ vs) : wipe σ' vs = wipe σ vs := by
  have key : ∀ (ws : List Nat) (j : Nat), (wipe σ' ws)[j]? = (wipe σ ws)[j]? ∨ (j ∉ ws ∧ (wipe σ' ws)[j]? = σ'[j]? ∧ (wipe σ ws)[j]? = σ[j]?) := by
    intro ws j
    by_cases hj : j ∈ ws
    · left
      induction ws with
      | nil => cases hj
      | cons w ws ih =>
        simp only [wipe]
        by_cases z : j = w
        · subst z
          by_cases q : j < σ.length
          · rw [List.getElem?_set_self (by rw [wipe_length, a.1]; exact q), List.getElem?_set_self (by rw [wipe_length]; exact q)]
          · rw [List.getElem?_eq_none (by rw [List.length_set, wipe_length, a.1]; omega), List.getElem?_eq_none (by rw [List.length_set, wipe_length]; omega)]
        · rw [List.getElem?_set_ne (fun k => z k.symm), List.getElem?_set_ne (fun k => z k.symm)]
          exact ih (by rcases List.mem_cons.mp hj with k | k; exact absurd k z; exact k)
    · exact .inr ⟨hj, wipe_get hj, wipe_get hj⟩
  apply List.ext_getElem?
  intro j
  rcases key vs j with k | ⟨n, k1, k2⟩
  · exact k
  · rw [k1, k2]
    exact a.2 j fun z => n (h j z)
/-- what the comprehension's own names stood for comes back -/
def rstE (env0 : DEnv) (envw : DEnv) : List Nat → Option DEnv
  | [] => some envw
  | v :: vs => match rstE env0 envw vs with
    | none => none
    | some e => match env0[v]? with
      | some (some (.lst _)) => none
      | some o => some (e.set v o)
      | none => none
theorem rstE_ok {env0 envw : DEnv} : ∀ {vs : List Nat} {e : DEnv}, rstE env0 envw vs = some e → e.length = envw.length ∧ (∀ v ∈ vs, ∀ ds, env0[v]? ≠ some (some (.lst ds))) ∧
    ∀ (j : Nat) (o : Ow), e[j]? = some (some o) → (j ∈ vs ∧ env0[j]? = some (some o)) ∨ (j ∉ vs ∧ envw[j]? = some (some o))
  | [], e, h => by
    simp only [rstE, Option.some.injEq] at h
    subst h
    exact ⟨rfl, fun v hv => absurd hv (by simp), fun j o q => .inr ⟨by simp, q⟩⟩
  | v :: vs, e, h => by
    simp only [rstE] at h
    cases h1 : rstE env0 envw vs with
    | none => rw [h1] at h; cases h
    | some e1 =>
      rw [h1] at h
      obtain ⟨k1, k2, k3⟩ := rstE_ok h1
      dsimp only at h
      split at h
      · cases h
      · rename_i o hno ho
        simp only [Option.some.injEq] at h
        subst h
        refine ⟨by rw [List.length_set]; exact k1, fun w hw ds q => ?_, fun j p q => ?_⟩
        · rcases List.mem_cons.mp hw with z | z
          · rw [z, ho] at q
            simp only [Option.some.injEq] at q
            exact hno ds q
          · exact k2 w z ds q
        · by_cases z : j = v
          · subst z
            by_cases q2 : j < e1.length
            · rw [List.getElem?_set_self q2] at q
              simp only [Option.some.injEq] at q
              exact .inl ⟨List.mem_cons_self, by rw [ho, q]⟩
            · rw [List.getElem?_eq_none (by rw [List.length_set]; omega)] at q
              cases q
          · rw [List.getElem?_set_ne (fun w => z w.symm)] at q
            rcases k3 j p q with ⟨m1, m2⟩ | ⟨m1, m2⟩
            · exact .inl ⟨List.mem_cons_of_mem _ m1, m2⟩
            · exact .inr ⟨by simp [z, m1], m2⟩
      · cases h
theorem SD.rst {σ : L2.St} {H B H' B' : Hp} {env0 envw e : DEnv} {vs : List Nat} (S : SD F σ H B env0) (W : SD F (wipe σ vs) H' B' envw) (g : Gr B B') (h : rstE env0 envw vs = some e) : SD F σ H' B' e := by
  obtain ⟨k1, k2, k3⟩ := rstE_ok h
  have own : ∀ (j : Nat) (ds : List Dt), e[j]? = some (some (.lst ds)) → j ∉ vs ∧ envw[j]? = some (some (.lst ds)) := fun j ds q => by
    rcases k3 j _ q with ⟨m1, m2⟩ | m
    · exact absurd m2 (k2 j m1 ds)
    · exact m
  refine ⟨by rw [k1, ← W.len, wipe_length], W.ent, W.gr, fun i d q => ?_, fun i ds q => ?_, fun i j ds es l e1 e2 e3 e4 => ?_⟩
  · rcases k3 i _ q with ⟨m1, m2⟩ | ⟨m1, m2⟩
    · obtain ⟨v, h1, h2⟩ := S.slot i d m2
      exact ⟨v, h1, h2.up g⟩
    · rw [← wipe_get m1]
      exact W.slot i d m2
  · obtain ⟨m1, m2⟩ := own i ds q
    rw [← wipe_get m1]
    exact W.own i ds m2
  · obtain ⟨m1, m2⟩ := own i ds e1
    obtain ⟨n1, n2⟩ := own j es e2
    rw [← wipe_get m1] at e3
    rw [← wipe_get n1] at e4
    exact W.dist i j ds es l m2 n2 e3 e4
/-- a cell that no slot has is changed -/
theorem SD.garb {σ : L2.St} {H B : Hp} {env : DEnv} {p : Addr} {vs ws : List V} (S : SD F σ H B env) (hb : B p = none) (hn : ¬ OA σ env p) (h0 : F.H0 p = none) (hp : H p = some (.lst vs)) :
    SD F σ (upd H p (.lst ws)) B env ∧ Stp (fun a => a = p) B H B (upd H p (.lst ws)) := by
  have stp : Stp (fun a => a = p) B H B (upd H p (.lst ws)) := by
    refine ⟨Gr.refl, fun _ q _ _ => q, fun a u q _ n => by rw [upd_ne n]; exact q, fun a q => ?_, fun x ⟨ps, q, k⟩ => ⟨ps, ?_, k⟩, fun _ _ q => q⟩
    · unfold upd
      split
      · exact fun z => by cases z
      · exact q
    · rw [upd_ne (fun z => by rw [z, hp] at q; cases q)]
      exact q
  refine ⟨⟨S.len, S.ent.trans stp fun a z => .inr (by rw [z]; exact h0), fun a u q => ?_, S.slot, fun i ds q => ?_, S.dist⟩, stp⟩
  · rw [upd_ne (fun z => by rw [z, hb] at q; cases q)]
    exact S.gr a u q
  · obtain ⟨l, xs, k1, k2, k3, k4, k5⟩ := S.own i ds q
    exact ⟨l, xs, k1, k2, k3, by rw [upd_ne (fun z => hn ⟨i, ds, q, by rw [← z]; exact k1⟩)]; exact k4, k5⟩
/-- the turns of a comprehension -/
def lcF (fg : Fg) (ft : Ft) (fe : Fe) (vs : List Nat) : List Dt → DEnv → Option (List Dt × DEnv)
  | [], env => some ([], env)
  | d :: ds, env => match fg d env with
    | none => none
    | some e1 => match ft e1 with
      | none => none
      | some (b, e2) => if b then match pur fe e2 with
          | none => none
          | some (y, e3) => match lcF fg ft fe vs ds (wipeE e3 vs) with
            | none => none
            | some (ys, e4) => some (y :: ys, e4)
        else lcF fg ft fe vs ds (wipeE e2 vs)
def fLc (fi : Fq) (fg : Fg) (ft : Ft) (fe : Fe) (vs : List Nat) : Fe := fun env => match fi env with
  | none => none
  | some (ds, e0) => if Nat.ble ds.length 16777216 then match lcF fg ft fe vs ds (wipeE e0 vs) with
      | none => none
      | some (ys, e1) => match rstE e0 e1 vs with
        | none => none
        | some e2 => some (.lst ys, e2)
    else none
theorem eb_yes : EB F tYes (fun env => some (true, env)) := by
  intro σ H B env b env' S e Q q
  simp only [Option.some.injEq, Prod.mk.injEq] at e
  obtain ⟨rfl, rfl⟩ := e
  exact q H B (Lft.refl S)
theorem ed_lc {wi : TI} {g : TG} {fi : Fq} {fg : Fg} {ft : Ft} {fe : Fe} {vs is : List Nat} (hi : EI F wi fi) (hg : EG F g fg is) (ht : EB F tt ft) (he : ED F te fe) (his : ∀ j ∈ is, j ∈ vs) : ED F (tLc wi g tt te vs) (fLc fi fg ft fe vs) := by
  intro σ H B env o env' S e Q q
  unfold fLc at e
  cases h1 : fi env with
  | none => rw [h1] at e; cases e
  | some p =>
    obtain ⟨ds, e0⟩ := p
    rw [h1] at e
    dsimp only at e
    split at e
    rotate_left
    · cases e
    rename_i hz
    have hz := Nat.le_of_ble_eq_true hz
    cases h2 : lcF fg ft fe vs ds (wipeE e0 vs) with
    | none => rw [h2] at e; cases e
    | some p2 =>
      obtain ⟨ys, e1⟩ := p2
      rw [h2] at e
      dsimp only at e
      cases h3 : rstE e0 e1 vs with
      | none => rw [h3] at e; cases e
      | some e2 =>
        rw [h3] at e
        simp only [Option.some.injEq, Prod.mk.injEq] at e
        obtain ⟨rfl, rfl⟩ := e
        refine hi σ H B env ds e0 S h1 _ fun J H0 B0 L0 hJ => ?_
        obtain ⟨G, Y, hw, hG, hY⟩ := hJ
        intro D hD
        have hDH : H D = none := by
          cases z : H D with
          | none => rfl
          | some u => exact absurd hD (L0.stp.th D (by rw [z]; exact fun y => by cases y))
        have D0 : F.H0 D = none := (S.fresh hDH).1
        have nD : ∀ a, OA σ e0 a → a ≠ D := fun a z w => L0.sd.oa_ne a z (by rw [w]; exact hD)
        refine lc_it hw (fun i Ht => ∃ (Bt : Hp) (et : DEnv) (acc : List Dt) (vacc : List V) (rest : List Dt), SD F (wipe σ vs) Ht Bt et ∧ Gr B0 Bt ∧ Stp (fun a => OA σ e0 a ∨ a = D) B0 H0 Bt Ht ∧ (∀ a, OA (wipe σ vs) et a → OA σ e0 a) ∧
          Ht D = some (.lst vacc) ∧ Bt D = none ∧ Rps F.K Bt vacc acc ∧ acc.length ≤ i ∧ lcF fg ft fe vs (ds.drop i) et = some (rest, e1) ∧ ys = acc ++ rest) ?_ ?_ ?_ ?_
        · have t := stp_new (B := B0) (o := .lst []) hD
          have W := (L0.sd.wiped vs).step (t.mono fun _ z => z) (gr_new L0.sd.gr hD)
          refine ⟨B0, wipeE e0 vs, [], [], ys, W, Gr.refl, t.mono fun _ z => z.elim, fun a z => ?_, upd_same, (L0.sd.fresh hD).2.1, .nil, Nat.zero_le _, h2, rfl⟩
          obtain ⟨i, es, q1, q2⟩ := z
          obtain ⟨q3, q4⟩ := wipeE_some q1
          rw [wipe_get q4] at q2
          exact ⟨i, es, q3, q2⟩
        · intro i Ht _ ⟨Bt, et, acc, vacc, rest, W, g0, _⟩
          exact hG Bt Ht g0 W.gr
        · intro i x Ht H2 hi2 ⟨Bt, et, acc, vacc, rest, W, g0, st, oa, hDt, bD, ra, hal, hl, hys⟩ hy
          have hd : ds[i]? = some ds[i] := List.getElem?_eq_getElem hi2
          rw [List.drop_eq_getElem_cons hi2] at hl
          simp only [lcF] at hl
          cases k1 : fg ds[i] et with
          | none => rw [k1] at hl; cases hl
          | some f1 =>
            rw [k1] at hl
            dsimp only at hl
            obtain ⟨B2, t2, g2, r2⟩ := hY i _ Bt Ht x H2 hd g0 W.gr hy
            refine hg _ H2 B2 et x _ f1 (W.step t2 g2) r2 k1 _ fun σ2 ag og S2 => ⟨?_, ?_⟩
            · have hww : wipe (wipe σ vs) vs = wipe σ vs := by
                have ag0 : Agr vs (wipe σ vs) σ := ⟨(wipe_length σ vs).symm, fun j n => (wipe_get n).symm⟩
                exact (wipe_agr ag0 fun j z => z).symm
              rw [wipe_agr ag his, hww]
            have hww2 : wipe σ2 vs = wipe σ vs := by
              have ag0 : Agr vs (wipe σ vs) σ := ⟨(wipe_length σ vs).symm, fun j n => (wipe_get n).symm⟩
              rw [wipe_agr ag his]
              exact (wipe_agr ag0 fun j z => z).symm
            -- the list's cell is nobody's
            have oa2 : ∀ a, OA σ2 f1 a → OA σ e0 a := fun a z => oa a (og a z)
            have nt : ∀ ps, HO.lst vacc ≠ .tbl ps := fun ps z => by cases z
            have d2 : H2 D = some (.lst vacc) := t2.hh D _ hDt nt fun z => z
            have b2 : B2 D = none := t2.nw D bD (by rw [hDt]; exact fun z => by cases z) fun z => z
            have back : ∀ (f : DEnv) (a : Addr), OA (wipe σ vs) (wipeE f vs) a → OA σ2 f a := fun f a ⟨j, es, q1, q2⟩ => by
              obtain ⟨q3, q4⟩ := wipeE_some q1
              refine ⟨j, es, q3, ?_⟩
              rw [← hww2, wipe_get q4] at q2
              exact q2
            cases k2 : ft f1 with
            | none => rw [k2] at hl; cases hl
            | some p3 =>
              obtain ⟨b, f2⟩ := p3
              rw [k2] at hl
              dsimp only at hl
              refine ht σ2 H2 B2 f1 b f2 S2 k2 _ fun H3 B3 L3 => ?_
              have nf1 : ¬ OA σ2 f1 D := fun z => nD D (oa2 D z) rfl
              have d3 : H3 D = some (.lst vacc) := L3.stp.hh D _ d2 nt nf1
              have b3 : B3 D = none := L3.stp.nw D b2 (by rw [d2]; exact fun z => by cases z) nf1
              have st3 : Stp (fun a => OA σ e0 a ∨ a = D) B0 H0 B3 H3 := (st.trans t2 fun _ z => z.elim).trans L3.stp fun a z => .inl (.inl (oa2 a z))
              cases b with
              | false =>
                simp only [Bool.false_eq_true, if_false] at hl ⊢
                refine ⟨B3, wipeE f2 vs, acc, vacc, rest, ?_, (g0.trans t2.bb).trans L3.stp.bb, st3, fun a z => oa2 a (L3.oa a (back f2 a z)), d3, b3, ra.up (t2.bb.trans L3.stp.bb), by omega, hl, hys⟩
                have W3 := L3.sd.wiped vs
                rw [hww2] at W3
                exact W3
              | true =>
                simp only [if_true] at hl ⊢
                cases k3 : DL.pur fe f2 with
                | none => rw [k3] at hl; cases hl
                | some p4 =>
                  obtain ⟨y, f3⟩ := p4
                  rw [k3] at hl
                  dsimp only at hl
                  cases k4 : lcF fg ft fe vs (ds.drop (i + 1)) (wipeE f3 vs) with
                  | none => rw [k4] at hl; cases hl
                  | some p5 =>
                    obtain ⟨ys2, e5⟩ := p5
                    rw [k4] at hl
                    simp only [Option.some.injEq, Prod.mk.injEq] at hl
                    obtain ⟨rfl, rfl⟩ := hl
                    refine he.pur σ2 H3 B3 f2 y f3 L3.sd k3 _ fun v H4 B4 L4 r4 => ?_
                    have nf2 : ¬ OA σ2 f2 D := fun z => nf1 (L3.oa D z)
                    have d4 : H4 D = some (.lst vacc) := L4.stp.hh D _ d3 nt nf2
                    have b4 : B4 D = none := L4.stp.nw D b3 (by rw [d3]; exact fun z => by cases z) nf2
                    have up4 := (t2.bb.trans L3.stp.bb).trans L4.stp.bb
                    have W4 := L4.sd.wiped vs
                    rw [hww2] at W4
                    have nW : ¬ OA (wipe σ vs) (wipeE f3 vs) D := fun z => nf2 (L4.oa D (back f3 D z))
                    obtain ⟨W5, t5⟩ := W4.garb (ws := vacc ++ [v]) b4 nW D0 d4
                    refine ⟨vacc, d4, ?_, B4, wipeE f3 vs, acc ++ [y], vacc ++ [v], ys2, W5, g0.trans up4, (st3.trans L4.stp fun a z => .inl (.inl (oa2 a (L3.oa a z)))).trans t5 fun a z => .inl (.inr z), fun a z => oa2 a (L3.oa a (L4.oa a (back f3 a z))), upd_same, b4, ((ra.up up4).app (.cons r4 .nil)), ?_, k4, ?_⟩
                    · rw [ra.length]
                      exact Nat.lt_of_lt_of_le (Nat.lt_of_le_of_lt hal hi2) hz
                    · rw [List.length_append]
                      exact Nat.succ_le_succ hal
                    · rw [hys, List.append_assoc]
                      rfl
        · intro Ht ⟨Bt, et, acc, vacc, rest, W, g0, st, oa, hDt, bD, ra, hal, hl, hys⟩
          rw [List.drop_length] at hl
          simp only [lcF, Option.some.injEq, Prod.mk.injEq] at hl
          obtain ⟨rfl, rfl⟩ := hl
          rw [List.append_nil] at hys
          subst hys
          have Sf := L0.sd.rst W g0 h3
          obtain ⟨c1, c2, c3⟩ := rstE_ok h3
          refine q (.ref D) Ht Bt ⟨Sf, L0.stp.trans st fun a z => ?_, fun a ⟨j, es, q1, q2⟩ => ?_⟩ ⟨D, vacc, rfl, bD, hDH, hDt, ra⟩
          · rcases z with z | z
            · exact .inl (L0.oa a z)
            · exact .inr (by rw [z]; exact hDH)
          · rcases c3 j _ q1 with ⟨m1, m2⟩ | ⟨m1, m2⟩
            · exact absurd m2 (c2 j m1 es)
            · exact L0.oa a (oa a ⟨j, es, m2, by rw [wipe_get m1]; exact q2⟩)
end
end DL
set_option Elab.async false
set_option linter.all false
set_option maxRecDepth 100000
/-! DL8: a def keeps the promise of its meaning -/
namespace DL
open PySem PySem.Spec PyProof.Rows L2
/-- what a body hands back -/
def runB (body : Fs) (env : DEnv) : Option Dt := match body env with
  | some (.rt d _) => some d
  | some (.nx _) => some .non
  | _ => none
/-- the meaning of a def: so many parameters, so many slots -/
def entE (n : Nat) (ds : List Dt) : DEnv := ds.map (fun d => some (.sh d)) ++ List.replicate (n - ds.length) none
def defF (np n : Nat) (body : Fs) : List Dt → Option Dt := fun ds => if Nat.beq ds.length np then runB body (entE n ds) else none
theorem entE_sh {n : Nat} {ds : List Dt} {i : Nat} {o : Ow} (h : (entE n ds)[i]? = some (some o)) : ∃ d, o = .sh d ∧ ds[i]? = some d := by
  unfold entE at h
  by_cases hi : i < ds.length
  · rw [List.getElem?_append_left (by simpa using hi), List.getElem?_map, List.getElem?_eq_getElem hi] at h
    simp only [Option.map_some, Option.some.injEq] at h
    exact ⟨ds[i], h.symm, List.getElem?_eq_getElem hi⟩
  · rw [List.getElem?_append_right (by simpa using Nat.le_of_not_lt hi)] at h
    have := List.mem_of_getElem? h
    rw [List.mem_replicate] at this
    cases this.2
theorem sd_start {K : PySem.W.Frag} {B H : Hp} {N : List Str} {vs : List V} {ds : List Dt} (g : Gr B H) (r : Rps K B vs ds) : SD ⟨K, B, H, fun _ => False⟩ (L2.start N vs) H B (entE N.length ds) := by
  have hl := r.length
  refine ⟨?_, Stp.refl, g, fun i d e => ?_, fun i es e => ?_, fun i j es fs l e => ?_⟩
  · unfold L2.start entE
    simp [hl]
  · obtain ⟨d', h1, h2⟩ := entE_sh e
    cases h1
    obtain ⟨v, k1, k2⟩ := r.get h2
    refine ⟨v, ?_, k2⟩
    unfold L2.start
    have hi : i < vs.length := (List.getElem?_eq_some_iff.mp k1).1
    rw [List.getElem?_append_left (by simpa using hi), List.getElem?_map, k1]
    rfl
  · obtain ⟨d', h1, _⟩ := entE_sh e
    cases h1
  · obtain ⟨d', h1, _⟩ := entE_sh e
    cases h1
section
variable {P : Program} {w : World} {K : PySem.W.Frag} {mg : Str → Option Value} {base : Heap}
/-- the rule for a def, its code object known -/
theorem fun_okC {x qual : Str} {st : Stmt} {f : Addr} {fd : FuncData} {N ps : List Str} {k : Nat} {sp : Sp} (F : Fun K x qual st f fd) (S : FnScope N ps (defScope st)) (len : ∀ vs H Q E, sp vs H Q E → vs.length = ps.length)
    (hbody : ∀ (A : Around) (outer : List Env) (s : Shared) (H : Hp) (vs : List V) (Q : VK) (E : XK), Room k (A.deeper (envOfC qual (defScope st) s.heap.objs.size f fd.code)) → sp vs H Q E →
      ∃ t, PSs (cxOf CX0 P w K mg base N qual (defScope st) f fd.code A outer s H E).nox (defBody st) t ∧ t { nx := fun _ H' => Q .non H', rt := Q } (L2.start N vs) H) : FnOk P w K mg base CX0 (k + 1) f fd ps sp := by
  obtain ⟨oc, od, kV, doc, pm, an, cdv, ct, osl, rfl, lk, hcd⟩ := F.ex
  refine fn_of lk hcd S len fun A outer s H vs Q E hr hsp => ?_
  obtain ⟨t, h, q⟩ := hbody A outer s H vs Q E hr hsp
  exact ⟨t, h.nox, q⟩
theorem fn_dl {x qual : Str} {st : Stmt} {f : Addr} {fd : FuncData} {N ps : List Str} {k : Nat} (F : Fun K x qual st f fd) (S : FnScope N ps (defScope st)) (T : List Addr) (body : Fs) {n np : Nat} (hn : N.length = n) (hnp : ps.length = np)
    (hb : ∀ (A : Around) (outer : List Env) (s : Shared) (H : Hp) (E : XK) (B : Hp), Room k (A.deeper (envOfC qual (defScope st) s.heap.objs.size f fd.code)) → Ent ⟨K, B, H, fun _ => False⟩ T →
      ∃ ts, PSs (cxOf CX0 P w K mg base N qual (defScope st) f fd.code A outer s H E).nox (defBody st) ts ∧ ES ⟨K, B, H, fun _ => False⟩ ts body) :
    FnOk P w K mg base CX0 (k + 1) f fd ps (spD K T (defF np n body)) := by
  have lenD : ∀ {ds : List Dt} {d : Dt}, defF np n body ds = some d → ds.length = np ∧ runB body (entE n ds) = some d := fun {ds d} h => by
    unfold defF at h
    split at h
    · rename_i hb
      exact ⟨Nat.eq_of_beq_eq_true hb, h⟩
    · cases h
  refine fun_okC F S (fun vs H Q E h => ?_) fun A outer s H vs Q E hr h => ?_
  · obtain ⟨B, ds, d, g, n1, n2, r, e, q⟩ := h
    rw [r.length, (lenD e).1, hnp]
  · obtain ⟨B, ds, d, g, n1, n2, r, e, q⟩ := h
    obtain ⟨e1, e2⟩ := lenD e
    obtain ⟨ts, h1, h2⟩ := hb A outer s H E B hr ⟨n1, n2⟩
    refine ⟨ts, h1, ?_⟩
    unfold runB at e2
    have S0 := sd_start (N := N) g r
    rw [hn] at S0
    cases ho : body (entE n ds) with
    | none => rw [ho] at e2; cases e2
    | some o =>
      rw [ho] at e2
      refine h2 (L2.start N vs) H B _ o S0 ho _ ?_
      cases o with
      | nx e3 =>
        simp only [Option.some.injEq] at e2
        subst e2
        exact fun σ' H' B' g' S' => q .non H' B' S'.ent S'.gr .non
      | rt d3 e3 =>
        simp only [Option.some.injEq] at e2
        subst e2
        exact fun v σ' H' B' g' S' r' => q v H' B' S'.ent S'.gr r'
      | bk e3 => cases e2
      | ct e3 => cases e2
/-- a weaker meaning -/
theorem FnOk.sem {CX : CXT} {k : Nat} {f : Addr} {fd : FuncData} {ps : List Str} {T : List Addr} {g g' : List Dt → Option Dt} (F : FnOk P w K mg base CX k f fd ps (spD K T g)) (h : ∀ ds d, g' ds = some d → g ds = some d) : FnOk P w K mg base CX k f fd ps (spD K T g') :=
  F.imp fun vs H Q E ⟨B, ds, d, a1, a2, a3, a4, e, q⟩ => ⟨B, ds, d, a1, a2, a3, a4, h ds d e, q⟩
/-- the tables that a callee leans on are among the caller's -/
theorem FnOk.tabs {CX : CXT} {k : Nat} {f : Addr} {fd : FuncData} {ps : List Str} {T T' : List Addr} {g : List Dt → Option Dt} (F : FnOk P w K mg base CX k f fd ps (spD K T g)) (h : ∀ p ∈ T, p ∈ T') : FnOk P w K mg base CX k f fd ps (spD K T' g) :=
  F.imp fun vs H Q E ⟨B, ds, d, a1, a2, a3, a4, e, q⟩ => ⟨B, ds, d, a1, a2, fun p hp => a3 p (h p hp), a4, e, q⟩
end
/-! ### small things for the terms -/
theorem rp_lit {K : PySem.W.Frag} {x : Str} {s : List Nat} (h : x.cps.toList = s) : ∀ H : Hp, Rp K H (.str x) (.str s) := fun H => by
  have := Rp.str (K := K) (H := H) s
  rw [← h] at this ⊢
  simpa using this
theorem rd_ip {F : Act} {f : Int → Int → Int} : RD2 F (ipI f) (gI f) := rd_I
theorem hu64 {k : Nat} {A : Around} (r : Room k A) : A.units + 64 < cLine := by have := r.un; omega
theorem hu65 {k : Nat} {A : Around} (r : Room k A) : A.units + 65 < cLine := by have := r.un; omega
theorem pos_or {α : Type} {a b : Prop} (h : a) : a ∨ b := .inl h
end DL
namespace DL
open PySem PySem.Spec PyProof.Rows L2
section
variable {F : Act}
/-! ### a slot that is looked at, not taken -/
def vwE (env : DEnv) (i : Nat) : Option Dt := match env[i]? with
  | some (some o) => some (frz o)
  | _ => none
/-- x[e] -/
def fIxV (i : Nat) (fb : Fe) : Fe := fun env => match env[i]? with
  | some (some _) => match pur fb env with
    | none => none
    | some (y, e1) => match vwE e1 i with
      | none => none
      | some d => match gIx d y with
        | some o => some (o, e1)
        | none => none
  | _ => none
theorem slot_val {σ : L2.St} {H B : Hp} {env : DEnv} {i : Nat} {o : Ow} (S : SD F σ H B env) (h : env[i]? = some (some o)) : ∃ v, σ[i]? = some (some v) := by
  cases o with
  | sh d => obtain ⟨v, h1, _⟩ := S.slot i d h; exact ⟨v, h1⟩
  | lst ds => obtain ⟨l, vs, h1, _⟩ := S.own i ds h; exact ⟨_, h1⟩
theorem ed_ixV {i : Nat} {tb : TE} {fb : Fe} (hb : ED F tb fb) : ED F (tOp (rIx F.K) (tVar i) tb) (fIxV i fb) := by
  intro σ H B env o env' S e Q q
  unfold fIxV at e
  split at e
  rotate_left
  · cases e
  rename_i o0 h0
  obtain ⟨v, hv⟩ := slot_val S h0
  cases h1 : DL.pur fb env with
  | none => rw [h1] at e; cases e
  | some p1 =>
    obtain ⟨y, e1⟩ := p1
    rw [h1] at e
    dsimp only at e
    unfold vwE at e
    split at e
    · cases e
    · rename_i d hd
      split at hd
      rotate_left
      · cases hd
      rename_i o1 h2
      simp only [Option.some.injEq] at hd
      split at e
      · rename_i o2 h3
        simp only [Option.some.injEq, Prod.mk.injEq] at e
        obtain ⟨rfl, rfl⟩ := e
        refine ⟨v, hv, hb.pur σ H B env y e1 S h1 _ fun w H1 B1 L1 r1 => ?_⟩
        cases o1 with
        | sh d1 =>
          cases hd
          obtain ⟨v', k1, k2⟩ := L1.sd.slot i _ h2
          rw [hv] at k1
          cases k1
          exact rd_ix H1 B1 v w _ y o2 L1.sd.gr k2 r1 h3 Q fun z H3 B3 t g3 w3 => q z H3 B3 (L1.trans (Lft.of L1.sd t g3)) (w3.since L1.stp.th)
        | lst ds =>
          cases hd
          obtain ⟨l, vs, k1, k2, k3, k4, k5⟩ := L1.sd.own i ds h2
          rw [hv] at k1
          cases k1
          have h3' : gIx (.lst ds) y = some o2 := h3
          unfold gIx at h3'
          split at h3'
          · rename_i ds' j heq
            cases heq
            split at h3'
            · rename_i jj hj
              split at h3'
              · rename_i d2 hd2
                simp only [Option.some.injEq] at h3'
                subst h3'
                cases r1
                obtain ⟨z, e1', e2'⟩ := at_rps k5 hj hd2
                exact .inl ⟨_, _, j, z, rfl, rfl, .inl (.inl k4), e1', q z H1 B1 L1 e2'⟩
              · cases h3'
            · cases h3'
          · rename_i heq; cases heq
          · rename_i heq; cases heq
          · cases h3'
      · cases e
def scl : Ow → Bool
  | .sh (.lst _) | .sh (.tup _) | .lst _ => false
  | _ => true
theorem scl_ok {o : Ow} {H' B' Hs H2 B2 : Hp} {z : V} (h : scl o = true) (w : WOk F Hs H' B' z o) : WOk F H2 H2 B2 z o := by
  cases o with
  | sh d =>
    cases d <;> first
      | (simp [scl] at h; done)
      | skip
    · cases (show Rp F.K B' z .non from w); exact Rp.non
    · cases (show Rp F.K B' z (.bl _) from w); exact Rp.bl _
    · cases (show Rp F.K B' z (.int _) from w); exact Rp.int _
    · cases (show Rp F.K B' z (.str _) from w); exact Rp.str _
  | lst ds => simp [scl] at h
/-- what is asked of an own list as of a frozen one -/
theorem vw_frz {σ : L2.St} {H B : Hp} {env : DEnv} {i : Nat} {d : Dt} {v : V} (S : SD F σ H B env) (h : vwE env i = some d) (hv : σ[i]? = some (some v)) : ∃ B2, Gr B B2 ∧ Gr B2 H ∧ Rp F.K B2 v d := by
  unfold vwE at h
  split at h
  · rename_i o ho
    simp only [Option.some.injEq] at h
    subst h
    cases o with
    | sh d =>
      obtain ⟨v', k1, k2⟩ := S.slot i d ho
      rw [hv] at k1
      cases k1
      exact ⟨B, Gr.refl, S.gr, k2⟩
    | lst ds =>
      obtain ⟨l, vs, k1, k2, k3, k4, k5⟩ := S.own i ds ho
      rw [hv] at k1
      cases k1
      have t := stp_frz k2 k4
      exact ⟨upd B l (.lst vs), t.bb, gr_frz S.gr k4, .lst (.inl (.inl upd_same)) (k5.up t.bb)⟩
  · cases h
/-- e op x, the answer no list, no tuple -/
def fOpV (g : Dt → Dt → Option Ow) (fa : Fe) (i : Nat) : Fe := fun env => match pur fa env with
  | none => none
  | some (x, e1) => match vwE e1 i with
    | none => none
    | some y => match g x y with
      | some o => if scl o then some (o, e1) else none
      | none => none
theorem ed_opV {r : R2} {g : Dt → Dt → Option Ow} {ta : TE} {fa : Fe} {i : Nat} (ha : ED F ta fa) (hr : RD2 F r g) : ED F (tOp r ta (tVar i)) (fOpV g fa i) := by
  intro σ H B env o env' S e Q q
  unfold fOpV at e
  cases h1 : DL.pur fa env with
  | none => rw [h1] at e; cases e
  | some p1 =>
    obtain ⟨x, e1⟩ := p1
    rw [h1] at e
    dsimp only at e
    cases h2 : vwE e1 i with
    | none => rw [h2] at e; cases e
    | some y =>
      rw [h2] at e
      dsimp only at e
      cases h3 : g x y with
      | none => rw [h3] at e; cases e
      | some o1 =>
        rw [h3] at e
        dsimp only at e
        split at e
        · rename_i hs
          simp only [Option.some.injEq, Prod.mk.injEq] at e
          obtain ⟨rfl, rfl⟩ := e
          refine ha.pur σ H B env x e1 S h1 _ fun v H1 B1 L1 r1 => ?_
          have hv : ∃ w, σ[i]? = some (some w) := by
            unfold vwE at h2
            split at h2
            · rename_i o ho
              exact slot_val L1.sd ho
            · cases h2
          obtain ⟨w, hw⟩ := hv
          obtain ⟨B2, g1, g2, r2⟩ := vw_frz L1.sd h2 hw
          refine ⟨w, hw, hr H1 B2 v w x y o1 g2 (r1.up g1) r2 h3 Q fun z H3 B3 t g3 w3 => ?_⟩
          have stp : Stp (fun _ => False) B1 H1 B1 H3 := ⟨Gr.refl, fun _ k _ _ => k, t.hh, t.th, t.tb, fun _ _ k => k⟩
          have g4 : Gr B1 H3 := g1.trans (t.bb.trans g3)
          have L := L1.trans (Lft.of L1.sd stp g4)
          refine q z H3 B1 L ?_
          have w4 := scl_ok (H2 := H3) (B2 := B1) hs w3
          cases o1 with
          | sh d => exact w4
          | lst ds => simp [scl] at hs
        · cases e
/-- f(x) of a built-in f, the answer no list, no tuple -/
def fCBV (g : List Dt → Option Ow) (i : Nat) : Fe := fun env => match vwE env i with
  | none => none
  | some y => match g [y] with
    | some o => if scl o then some (o, env) else none
    | none => none
theorem ed_cbV {r : List V → Hp → VK → Prop} {g : List Dt → Option Ow} {i : Nat} (hr : RC F r g) : ED F (tCB r (tCons (tVar i) tNil)) (fCBV g i) := by
  intro σ H B env o env' S e Q q
  unfold fCBV at e
  cases h2 : vwE env i with
  | none => rw [h2] at e; cases e
  | some y =>
    rw [h2] at e
    dsimp only at e
    cases h3 : g [y] with
    | none => rw [h3] at e; cases e
    | some o1 =>
      rw [h3] at e
      dsimp only at e
      split at e
      · rename_i hs
        simp only [Option.some.injEq, Prod.mk.injEq] at e
        obtain ⟨rfl, rfl⟩ := e
        have hv : ∃ w, σ[i]? = some (some w) := by
          unfold vwE at h2
          split at h2
          · rename_i o ho
            exact slot_val S ho
          · cases h2
        obtain ⟨w, hw⟩ := hv
        obtain ⟨B2, g1, g2, r2⟩ := vw_frz S h2 hw
        refine ⟨w, hw, hr H B2 [w] [y] o1 g2 (.cons r2 .nil) h3 Q fun z H3 B3 t g3 w3 => ?_⟩
        have stp : Stp (fun _ => False) B H B H3 := ⟨Gr.refl, fun _ k _ _ => k, t.hh, t.th, t.tb, fun _ _ k => k⟩
        have g4 : Gr B H3 := g1.trans (t.bb.trans g3)
        refine q z H3 B (Lft.of S stp g4) ?_
        have w4 := scl_ok (H2 := H3) (B2 := B) hs w3
        cases o1 with
        | sh d => exact w4
        | lst ds => simp [scl] at hs
      · cases e
end
theorem ps_never {X : Cx} {st : Stmt} : PS X st tNever := ⟨fun _ _ _ _ _ _ h => h.elim⟩
end DL

namespace DL
open PySem PySem.Spec PyProof.Rows L2
/-! ### the rules, K by name -/
section
variable {X : Cx} {k : Nat}
theorem xop_add (K : PySem.W.Frag) (h : X.K = K := by rfl) : OpR X (binaryOp .Add) (rAddU K) := h ▸ op_addU
theorem xop_eq (K : PySem.W.Frag) (hr : Room k X.A) (h : X.K = K := by rfl) : OpR X (compareOp .Eq) (rEqD K) := h ▸ op_eqD (hu64 hr)
theorem xop_ne (K : PySem.W.Frag) (hr : Room k X.A) (h : X.K = K := by rfl) : OpR X (compareOp .NotEq) (rNeD K) := h ▸ op_neD (hu64 hr)
theorem xop_in (K : PySem.W.Frag) (hr : Room k X.A) (h : X.K = K := by rfl) : OpR X (compareOp .In) (rInU K) := h ▸ op_inU (hu65 hr)
theorem xop_ni (K : PySem.W.Frag) (hr : Room k X.A) (h : X.K = K := by rfl) : OpR X (compareOp .NotIn) (rNiU K) := h ▸ op_niU (hu65 hr)
theorem xsl (K : PySem.W.Frag) (h : X.K = K := by rfl) : SlR X (rSlU K) := h ▸ sl_U
theorem xix (K : PySem.W.Frag) (h : X.K = K := by rfl) : IxR X (rIx K) := h ▸ ix_seq
theorem xlen (K : PySem.W.Frag) (h : X.K = K := by rfl) : CallR X (.builtin "len") (rLen1 K) := h ▸ call_len1
theorem xall (K : PySem.W.Frag) (hc : X.calm = true := by rfl) (h : X.K = K := by rfl) : CallR X (.builtin "all") (rAll K) := h ▸ cr_all hc
theorem xany (K : PySem.W.Frag) (hc : X.calm = true := by rfl) (h : X.K = K := by rfl) : CallR X (.builtin "any") (rAny K) := h ▸ cr_any hc
theorem xmax2 (K : PySem.W.Frag) (hc : X.calm = true := by rfl) : CallR X (.builtin "max") rMx2 := call_mx2 hc
end
end DL
set_option Elab.async false
set_option linter.all false
set_option maxRecDepth 100000
namespace K00
open PySem PySem.Spec PyProof.Rows L2 DL
theorem gs_free {l : List (Str × NameKind)} {env : Env} (h : (l.all fun y => match y.2 with | .free => false | _ => true) = true) : ∀ y ∈ l, y.2 = .free → ∃ c, env.cells.lookup y.1 = some c := fun y hy e => by
  have := List.all_eq_true.mp h y hy
  rw [e] at this
  cases this
theorem signT_z {X : Cx} {sc : Scope} {x g : Str} {z : List Nat} {p1 p2 p3 : Pos} (hm : ∃ t, X.mg g = some (.str ⟨z.toArray⟩ t)) (hb : X.base.Ns mainGlobals X.mg)
    (hk : sc.kind = .function) (hl : sc.names.lookup x = some .local) (hg : sc.names.lookup g = some .globalImplicit)
    (d1 : (x == ("__debug__" : Str)) = false := by decide) (d2 : (g == ("__debug__" : Str)) = false := by decide) :
    Gx.SignT X sc x (.Compare (.Name x p1) [.In] [.Name g p2] p3) (fun c => decide (c ∈ z)) := by
  have := Gx.signT_in (p1 := p1) (p2 := p2) (p3 := p3) hm hb hk hl hg d1 d2
  simpa using this
def topS (i : Nat) : Stmt := PySem.Challenge.pw_foundry_k00_words_of_lines.main.body.getD i (.Pass ⟨0, 0, 0, 0⟩)
def d_CLOSED : Dt := .tup [.str [116, 104, 105, 110, 103, 115], .str [116, 114, 117, 116, 104], .str [110, 117, 109, 98, 101, 114], .str [116, 104, 105, 110, 103], .str [115, 101, 116], .str [114, 101, 108, 97, 116, 105, 111, 110], .str [109, 97, 112], .str [103, 114, 97, 112, 104], .str [100, 105, 103, 114, 97, 112, 104], .str [108, 101, 116], .str [100, 101, 102], .str [119, 105, 115, 104], .str [115, 111, 102, 116], .str [112, 114, 105, 99, 101], .str [119, 101, 105, 103, 104, 116], .str [105, 110], .str [111, 102], .str [111, 110], .str [102, 114, 111, 109], .str [116, 111], .str [110, 111, 116], .str [97, 110, 100], .str [111, 114], .str [119, 105, 116, 104, 105, 110], .str [105, 102], .str [116, 104, 101, 110], .str [101, 108, 115, 101], .str [121, 101, 115], .str [110, 111], .str [103, 105, 118, 101, 110], .str [97, 108, 108], .str [115, 111, 109, 101], .str [101, 120, 97, 99, 116, 108, 121], .str [97, 116, 108, 101, 97, 115, 116], .str [97, 116, 109, 111, 115, 116], .str [99, 111, 117, 110, 116], .str [115, 117, 109], .str [108, 101, 97, 115, 116], .str [109, 111, 115, 116], .str [116, 104, 111, 115, 101], .str [101, 100, 103, 101], .str [112, 97, 116, 104], .str [106, 111, 105, 110, 101, 100], .str [116, 114, 101, 101, 108, 105, 107, 101], .str [114, 111, 117, 110, 100], .str [115, 105, 122, 101], .str [100, 101, 103, 114, 101, 101], .str [110, 101, 97, 114], .str [100, 105, 115, 116, 97, 110, 99, 101], .str [100, 105, 118], .str [109, 111, 100], .str [109, 111, 100, 101, 108], .str [119, 101, 105, 103, 104], .str [110, 116, 104], .str [102, 111, 108, 108, 111, 119, 115], .str [102, 111, 114, 99, 101, 100], .str [99, 111, 114, 101], .str [109, 101, 110, 100], .str [108, 105, 107, 101, 108, 105, 101, 115, 116], .str [109, 97, 114, 103, 105, 110, 97, 108], .str [116, 104, 101, 105, 114, 115], .str [115, 101, 101, 115], .str [119, 105, 110], .str [118, 97, 108, 117, 101], .str [115, 116, 97, 98, 108, 101], .str [115, 116, 97, 98, 108, 101, 115]]
def z_FIRST : List Nat := [97, 98, 99, 100, 101, 102, 103, 104, 105, 106, 107, 108, 109, 110, 111, 112, 113, 114, 115, 116, 117, 118, 119, 120, 121, 122, 65, 66, 67, 68, 69, 70, 71, 72, 73, 74, 75, 76, 77, 78, 79, 80, 81, 82, 83, 84, 85, 86, 87, 88, 89, 90]
def z_SIGNS : List Nat := [97, 98, 99, 100, 101, 102, 103, 104, 105, 106, 107, 108, 109, 110, 111, 112, 113, 114, 115, 116, 117, 118, 119, 120, 121, 122, 65, 66, 67, 68, 69, 70, 71, 72, 73, 74, 75, 76, 77, 78, 79, 80, 81, 82, 83, 84, 85, 86, 87, 88, 89, 90, 48, 49, 50, 51, 52, 53, 54, 55, 56, 57, 95]
def z_DIGITS : List Nat := [48, 49, 50, 51, 52, 53, 54, 55, 56, 57]
def d_MARKS : Dt := .tup [.str [60, 45, 62], .str [45, 62], .str [60, 61], .str [62, 61], .str [46, 46], .str [40], .str [41], .str [123], .str [125], .str [44], .str [58], .str [61], .str [35], .str [60], .str [62], .str [43], .str [45], .str [42], .str [47]]
def d_EACH : Dt := .tup [.str [97, 108, 108], .str [115, 111, 109, 101], .str [101, 120, 97, 99, 116, 108, 121], .str [97, 116, 108, 101, 97, 115, 116], .str [97, 116, 109, 111, 115, 116], .str [99, 111, 117, 110, 116], .str [115, 117, 109], .str [108, 101, 97, 115, 116], .str [109, 111, 115, 116], .str [116, 104, 111, 115, 101]]
/-! ### is_name -/
abbrev s_is_name : Stmt := topS 14
abbrev N_is_name : List Str := ["text"]
theorem sc_is_name : FnScope N_is_name ["text"] (defScope s_is_name) := ⟨rfl, rfl, rfl, by decide +kernel, rfl, by decide +kernel, by decide +kernel⟩
def b_is_name_0_0 : Fs := (sRet (fC (.bl false)))
def b_is_name_0 : Fs := (sIf (fOr (fB (fOp gEq (fVar 0) (fC (.str [])))) (fOr (fB (fOp gGt (fCBV gLen 0) (fC (.int 12)))) (fB (fOp gIn (fVar 0) (fC d_CLOSED))))) b_is_name_0_0 sNx)
def b_is_name_1 : Fs := (sRet (fV (fAnd (fB (fOp gIn (fIxV 0 (fC (.int 0))) (fC (.str z_FIRST)))) (fB (fAllT (fun c => decide (c ∈ z_SIGNS)) (fVar 0))))))
def b_is_name : Fs :=
  (sSeq b_is_name_0 b_is_name_1)
def m_is_name : List Dt → Option Dt := defF 1 1 b_is_name
set_option maxHeartbeats 4000000 in
theorem ok_is_name {P : Program} {w : World} {K : PySem.W.Frag} {mg : Str → Option Value} {base : Heap} {T : List Addr} {f : Addr} {fd : FuncData} (F : Fun K "is_name" "is_name" s_is_name f fd)
    {t_NAME : Tok} (g_NAME : mg "NAME" = some (.int 12 t_NAME))
    {a_CLOSED : Addr} (g_CLOSED : mg "CLOSED" = some (.ref a_CLOSED)) (r_CLOSED : ∀ H : Hp, Rp K H (.ref a_CLOSED) d_CLOSED)
    {t_FIRST : Tok} (g_FIRST : mg "FIRST" = some (.str ⟨z_FIRST.toArray⟩ t_FIRST))
    {t_SIGNS : Tok} (g_SIGNS : mg "SIGNS" = some (.str ⟨z_SIGNS.toArray⟩ t_SIGNS))
    (f_len : mg "len" = none)
    (f_all : mg "all" = none)
    (hG : base.Ns mainGlobals mg) {c tb : Addr} (hc : fd.code = .ref c) (TB : GxR.TabB base mg c tb) (hP : tb ∈ T) :
    FnOk P w K mg base CX0 2 f fd ["text"] (spD K T m_is_name) := by
  refine fn_dl F sc_is_name T b_is_name rfl rfl ?_
  intro A outer s H E B hr ET
  refine ⟨_, (pss_cons (ps_if (PW.pt (pw_or (pt_cmpR (xop_eq K hr) (pv 0) pe_str (nomark _)) (pw_or (pt_cmpR op_gt (pe_callB (xlen K) (by rfl) f_len (by decide +kernel) (pa_cons (pv 0) pa_nil)) (pe_glob (v := .int 12) (by rfl) g_NAME ⟨_, rfl⟩) (nomark _)) (pw_or1 (pt_cmpR (xop_in K hr) (pv 0) (pe_glob (v := .ref a_CLOSED) (by rfl) g_CLOSED rfl) (by rfl)))))) (pss_one (ps_ret pe_bl)) pss_nil)
  (pss_one (ps_ret (pe_and (pe_cmpR (xop_in K hr) (pe_ix (xix K) (pv 0) pe_int (fun _ _ => rfl)) (pe_glob (v := .str ⟨z_FIRST.toArray⟩) (by rfl) g_FIRST ⟨_, rfl⟩) (by rfl)) (pe_one (Gx.pe_allT hr (by rfl) f_all TB hc ⟨rfl, rfl, by decide +kernel, rfl, rfl, gs_free (by decide +kernel)⟩ (pv 0) (signT_z ⟨_, g_SIGNS⟩ hG rfl rfl rfl) (by intro _; rfl))))))), ?_⟩
  unfold b_is_name
  exact (es_seq (es_if (eb_or (eb_test (ed_op (ed_var 0) (ed_c (rp_lit (by rfl))) rd_eq)) (eb_or (eb_test (ed_op (ed_cbV rc_len) (ed_c fun _ => .int _) rd_gt)) (eb_test (ed_op (ed_var 0) (ed_c r_CLOSED) rd_in)))) (es_ret (ed_c fun _ => .bl _)) es_nx)
  (es_ret (ed_andV (ed_op (ed_ixV (ed_c fun _ => .int _)) (ed_c fun _ => .str _) rd_in) (ed_allT ET hP (ed_var 0)))))
/-! ### is_number -/
abbrev s_is_number : Stmt := topS 15
abbrev N_is_number : List Str := ["text"]
theorem sc_is_number : FnScope N_is_number ["text"] (defScope s_is_number) := ⟨rfl, rfl, rfl, by decide +kernel, rfl, by decide +kernel, by decide +kernel⟩
def b_is_number_0_0 : Fs := (sRet (fC (.bl false)))
def b_is_number_0 : Fs := (sIf (fOr (fB (fOp gEq (fVar 0) (fC (.str [])))) (fOr (fB (fOp gGt (fCBV gLen 0) (fC (.int 130)))) (fAnd (fB (fOp gEq (fIxV 0 (fC (.int 0))) (fC (.str [48])))) (fB (fOp gNe (fVar 0) (fC (.str [48]))))))) b_is_number_0_0 sNx)
def b_is_number_1 : Fs := (sRet (fAllT (fun c => decide (c ∈ z_DIGITS)) (fVar 0)))
def b_is_number : Fs :=
  (sSeq b_is_number_0 b_is_number_1)
def m_is_number : List Dt → Option Dt := defF 1 1 b_is_number
set_option maxHeartbeats 4000000 in
theorem ok_is_number {P : Program} {w : World} {K : PySem.W.Frag} {mg : Str → Option Value} {base : Heap} {T : List Addr} {f : Addr} {fd : FuncData} (F : Fun K "is_number" "is_number" s_is_number f fd)
    {t_DIGITS : Tok} (g_DIGITS : mg "DIGITS" = some (.str ⟨z_DIGITS.toArray⟩ t_DIGITS))
    (f_len : mg "len" = none)
    (f_all : mg "all" = none)
    (hG : base.Ns mainGlobals mg) {c tb : Addr} (hc : fd.code = .ref c) (TB : GxR.TabB base mg c tb) (hP : tb ∈ T) :
    FnOk P w K mg base CX0 2 f fd ["text"] (spD K T m_is_number) := by
  refine fn_dl F sc_is_number T b_is_number rfl rfl ?_
  intro A outer s H E B hr ET
  refine ⟨_, (pss_cons (ps_if (PW.pt (pw_or (pt_cmpR (xop_eq K hr) (pv 0) pe_str (nomark _)) (pw_or (pt_cmpR op_gt (pe_callB (xlen K) (by rfl) f_len (by decide +kernel) (pa_cons (pv 0) pa_nil)) pe_int (nomark _)) (pw_or1 (PW.pt (pw_and (pt_cmpR (xop_eq K hr) (pe_ix (xix K) (pv 0) pe_int (fun _ _ => rfl)) pe_str (nomark _)) (pw_and1 (pt_cmpR (xop_ne K hr) (pv 0) pe_str (nomark _))))))))) (pss_one (ps_ret pe_bl)) pss_nil)
  (pss_one (ps_ret (Gx.pe_allT hr (by rfl) f_all TB hc ⟨rfl, rfl, by decide +kernel, rfl, rfl, gs_free (by decide +kernel)⟩ (pv 0) (signT_z ⟨_, g_DIGITS⟩ hG rfl rfl rfl) (by intro _; rfl))))), ?_⟩
  unfold b_is_number
  exact (es_seq (es_if (eb_or (eb_test (ed_op (ed_var 0) (ed_c (rp_lit (by rfl))) rd_eq)) (eb_or (eb_test (ed_op (ed_cbV rc_len) (ed_c fun _ => .int _) rd_gt)) (eb_and (eb_test (ed_op (ed_ixV (ed_c fun _ => .int _)) (ed_c (rp_lit (by rfl))) rd_eq)) (eb_test (ed_op (ed_var 0) (ed_c (rp_lit (by rfl))) rd_ne))))) (es_ret (ed_c fun _ => .bl _)) es_nx)
  (es_ret (ed_allT ET hP (ed_var 0))))
/-! ### words_of -/
abbrev s_words_of : Stmt := topS 16
abbrev N_words_of : List Str := ["line", "found", "at", "end", "word", "marks", "mark"]
theorem sc_words_of : FnScope N_words_of ["line"] (defScope s_words_of) := ⟨rfl, rfl, rfl, by decide +kernel, rfl, by decide +kernel, by decide +kernel⟩
def b_words_of_0 : Fs := (sSet 1 (fLst qNil))
def b_words_of_1 : Fs := (sSet 2 (fC (.int 0)))
def b_words_of_2_0_0 : Fs := (sAug 2 (gI (fun i j => i + j)) (fC (.int 1)))
def b_words_of_2_0e_0_0 : Fs := (sSet 3 (fVar 2))
def b_words_of_2_0e_0_1_0 : Fs := (sAug 3 (gI (fun i j => i + j)) (fC (.int 1)))
def b_words_of_2_0e_0_1 : Fs := (whF (fAnd (fB (fOp gLt (fVar 3) (fCBV gLen 0))) (fB (fOp gIn (fIxV 0 (fVar 3)) (fC (.str z_SIGNS))))) b_words_of_2_0e_0_1_0 1000000)
def b_words_of_2_0e_0_2 : Fs := (sSet 4 (fSl (fVar 0) (oSome (fVar 2)) (oSome (fVar 3))))
def b_words_of_2_0e_0_3_0 : Fs := (sRet (fC .non))
def b_words_of_2_0e_0_3 : Fs := (sIf (fAnd (fB (fOp gNi (fVar 4) (fC d_CLOSED))) (fAnd (tNot' (fB (fCall m_is_name (qCons (fVar 4) qNil)))) (tNot' (fB (fCall m_is_number (qCons (fVar 4) qNil)))))) b_words_of_2_0e_0_3_0 sNx)
def b_words_of_2_0e_0_4 : Fs := (sApp 1 (fVar 4))
def b_words_of_2_0e_0_5 : Fs := (sSet 2 (fVar 3))
def b_words_of_2_0e_0e_0 : Fs := (sSet 5 (fLc (iT (fC d_MARKS)) (gN 6) (fB (fOpV gEq (fSl (fVar 0) (oSome (fVar 2)) (oSome (fOp gAdd (fVar 2) (fCBV gLen 6)))) 6)) (fVar 6) [6]))
def b_words_of_2_0e_0e_1_0 : Fs := (sRet (fC .non))
def b_words_of_2_0e_0e_1 : Fs := (sIf (fB (fOp gEq (fCBV gLen 5) (fC (.int 0)))) b_words_of_2_0e_0e_1_0 sNx)
def b_words_of_2_0e_0e_2 : Fs := (sApp 1 (fIxV 5 (fC (.int 0))))
def b_words_of_2_0e_0e_3 : Fs := (sAug 2 (gI (fun i j => i + j)) (fCB gLen (qCons (fIxV 5 (fC (.int 0))) qNil)))
def b_words_of_2_0e_0 : Fs := (sIf (fB (fOp gIn (fIxV 0 (fVar 2)) (fC (.str z_SIGNS)))) (sSeq b_words_of_2_0e_0_0 (sSeq b_words_of_2_0e_0_1 (sSeq b_words_of_2_0e_0_2 (sSeq b_words_of_2_0e_0_3 (sSeq b_words_of_2_0e_0_4 b_words_of_2_0e_0_5))))) (sSeq b_words_of_2_0e_0e_0 (sSeq b_words_of_2_0e_0e_1 (sSeq b_words_of_2_0e_0e_2 b_words_of_2_0e_0e_3))))
def b_words_of_2_0 : Fs := (sIf (fB (fOp gEq (fIxV 0 (fVar 2)) (fC (.str [32])))) b_words_of_2_0_0 b_words_of_2_0e_0)
def b_words_of_2 : Fs := (whF (fB (fOp gLt (fVar 2) (fCBV gLen 0))) b_words_of_2_0 1000000)
def b_words_of_3 : Fs := (sRet (fVar 1))
def b_words_of : Fs :=
  (sSeq b_words_of_0 (sSeq b_words_of_1 (sSeq b_words_of_2 b_words_of_3)))
def m_words_of : List Dt → Option Dt := defF 1 7 b_words_of
set_option maxHeartbeats 4000000 in
theorem ok_words_of {P : Program} {w : World} {K : PySem.W.Frag} {mg : Str → Option Value} {base : Heap} {T : List Addr} {f : Addr} {fd : FuncData} (F : Fun K "words_of" "words_of" s_words_of f fd)
    {a_is_name : Addr} {fd_is_name : FuncData} (G_is_name : FnOk P w K mg base CX0 2 a_is_name fd_is_name ["text"] (spD K T m_is_name)) (g_is_name : mg "is_name" = some (.ref a_is_name)) (K_is_name : PySem.W.keepIn K (.ref a_is_name) = true) (B_is_name : Binds K fd_is_name ["text"] [])
    {a_is_number : Addr} {fd_is_number : FuncData} (G_is_number : FnOk P w K mg base CX0 2 a_is_number fd_is_number ["text"] (spD K T m_is_number)) (g_is_number : mg "is_number" = some (.ref a_is_number)) (K_is_number : PySem.W.keepIn K (.ref a_is_number) = true) (B_is_number : Binds K fd_is_number ["text"] [])
    {t_SIGNS : Tok} (g_SIGNS : mg "SIGNS" = some (.str ⟨z_SIGNS.toArray⟩ t_SIGNS))
    {a_CLOSED : Addr} (g_CLOSED : mg "CLOSED" = some (.ref a_CLOSED)) (r_CLOSED : ∀ H : Hp, Rp K H (.ref a_CLOSED) d_CLOSED)
    {a_MARKS : Addr} (g_MARKS : mg "MARKS" = some (.ref a_MARKS)) (r_MARKS : ∀ H : Hp, Rp K H (.ref a_MARKS) d_MARKS)
    (f_len : mg "len" = none) :
    FnOk P w K mg base CX0 3 f fd ["line"] (spD K T m_words_of) := by
  refine fn_dl F sc_words_of T b_words_of rfl rfl ?_
  intro A outer s H E B hr ET
  refine ⟨_, (pss_cons (ps_set (i := 1) sc_words_of.nd rfl (by first | exact .inl rfl | exact .inr rfl) (pe_lst pa_nil))
  (pss_cons (ps_set (i := 2) sc_words_of.nd rfl (by first | exact .inl rfl | exact .inr rfl) pe_int)
  (pss_cons (ps_while PassesOwn.never (pt_cmpR op_lt (pv 2) (pe_callB (xlen K) (by rfl) f_len (by decide +kernel) (pa_cons (pv 0) pa_nil)) (nomark _)) (pss_one (ps_if (pt_cmpR (xop_eq K hr) (pe_ix (xix K) (pv 0) (pv 2) (fun _ _ => rfl)) pe_str (nomark _)) (pss_one (ps_aug (i := 2) sc_words_of.nd rfl (by first | exact .inl rfl | exact .inr rfl) pe_int ip_add)) (pss_one (ps_if (pt_cmpR (xop_in K hr) (pe_ix (xix K) (pv 0) (pv 2) (fun _ _ => rfl)) (pe_glob (v := .str ⟨z_SIGNS.toArray⟩) (by rfl) g_SIGNS ⟨_, rfl⟩) (by rfl)) (pss_cons (ps_set (i := 3) sc_words_of.nd rfl (by first | exact .inl rfl | exact .inr rfl) (pv 2))
  (pss_cons (ps_while PassesOwn.never (PW.pt (pw_and (pt_cmpR op_lt (pv 3) (pe_callB (xlen K) (by rfl) f_len (by decide +kernel) (pa_cons (pv 0) pa_nil)) (nomark _)) (pw_and1 (pt_cmpR (xop_in K hr) (pe_ix (xix K) (pv 0) (pv 3) (fun _ _ => rfl)) (pe_glob (v := .str ⟨z_SIGNS.toArray⟩) (by rfl) g_SIGNS ⟨_, rfl⟩) (by rfl))))) (pss_one (ps_aug (i := 3) sc_words_of.nd rfl (by first | exact .inl rfl | exact .inr rfl) pe_int ip_add)))
  (pss_cons (ps_set (i := 4) sc_words_of.nd rfl (by first | exact .inl rfl | exact .inr rfl) (pe_slice (xsl K) (pv 0) (po_some (pv 2)) (po_some (pv 3))))
  (pss_cons (ps_if (PW.pt (pw_and (pt_cmpR (xop_ni K hr) (pv 4) (pe_glob (v := .ref a_CLOSED) (by rfl) g_CLOSED rfl) (by rfl)) (pw_and (pt_not (pt_val (pe_call G_is_name (hr.mono (by decide)) (by rfl) g_is_name K_is_name B_is_name .nil pass0 (pa_cons (pv 4) pa_nil)))) (pw_and1 (pt_not (pt_val (pe_call G_is_number (hr.mono (by decide)) (by rfl) g_is_number K_is_number B_is_number .nil pass0 (pa_cons (pv 4) pa_nil)))))))) (pss_one (ps_ret pe_non)) pss_nil)
  (pss_cons (ps_expr (pe_bm PySem.F.plainAttrs_list PySem.F.slot_list_append PySem.F.type_list_append mt_append (pv 1) (pa_cons (pv 4) pa_nil)))
  (pss_one (ps_set (i := 2) sc_words_of.nd rfl (by first | exact .inl rfl | exact .inr rfl) (pv 3)))))))) (pss_cons (ps_setLc (i := 5) (own := [("mark", 6)]) (g := gName 6) rfl sc_words_of.nd rfl rfl (sw_true rfl rfl rfl (by decide +kernel)) (pi_tup (pe_glob (v := .ref a_MARKS) (by rfl) g_MARKS rfl)) (blkOk_by (N := N_words_of) (sc := defScope s_words_of) (by decide +kernel)) (fun _ _ _ _ _ => (pg_name (i := 6) sc_words_of.nd rfl (by first | exact .inl rfl | exact .inr rfl))) (fun _ _ _ _ _ => (pts_one (pt_cmpR (xop_eq K hr) (pe_slice (xsl K) (pv 0) (po_some (pv 2)) (po_some (pe_op (xop_add K) (pv 2) (pe_callB (xlen K) (by rfl) f_len (by decide +kernel) (pa_cons (pv 6) pa_nil))))) (pv 6) (nomark _)))) (fun _ _ _ _ _ => (pv 6)))
  (pss_cons (ps_if (pt_cmpR (xop_eq K hr) (pe_callB (xlen K) (by rfl) f_len (by decide +kernel) (pa_cons (pv 5) pa_nil)) pe_int (nomark _)) (pss_one (ps_ret pe_non)) pss_nil)
  (pss_cons (ps_expr (pe_bm PySem.F.plainAttrs_list PySem.F.slot_list_append PySem.F.type_list_append mt_append (pv 1) (pa_cons (pe_ix (xix K) (pv 5) pe_int (fun _ _ => rfl)) pa_nil)))
  (pss_one (ps_aug (i := 2) sc_words_of.nd rfl (by first | exact .inl rfl | exact .inr rfl) (pe_callB (xlen K) (by rfl) f_len (by decide +kernel) (pa_cons (pe_ix (xix K) (pv 5) pe_int (fun _ _ => rfl)) pa_nil)) ip_add))))))))))
  (pss_one (ps_ret (pv 1)))))), ?_⟩
  unfold b_words_of
  exact (es_seq (es_set (ed_lst eq_nil))
  (es_seq (es_set (ed_c fun _ => .int _))
  (es_seq (es_while (eb_test (ed_op (ed_var 2) (ed_cbV rc_len) rd_lt)) (es_if (eb_test (ed_op (ed_ixV (ed_var 2)) (ed_c (rp_lit (by rfl))) rd_eq)) (es_aug (ed_c fun _ => .int _) rd_ip) (es_if (eb_test (ed_op (ed_ixV (ed_var 2)) (ed_c fun _ => .str _) rd_in)) (es_seq (es_set (ed_var 2))
  (es_seq (es_while (eb_and (eb_test (ed_op (ed_var 3) (ed_cbV rc_len) rd_lt)) (eb_test (ed_op (ed_ixV (ed_var 3)) (ed_c fun _ => .str _) rd_in))) (es_aug (ed_c fun _ => .int _) rd_ip))
  (es_seq (es_set (ed_sl (ed_var 0) (eo_some (ed_var 2)) (eo_some (ed_var 3))))
  (es_seq (es_if (eb_and (eb_test (ed_op (ed_var 4) (ed_c r_CLOSED) rd_ni)) (eb_and (eb_not (eb_val (ed_call ET (eq_cons (ed_var 4) eq_nil)))) (eb_not (eb_val (ed_call ET (eq_cons (ed_var 4) eq_nil)))))) (es_ret (ed_c fun _ => .non)) es_nx)
  (es_seq (es_app (ed_var 4))
  (es_set (ed_var 3))))))) (es_seq (es_set (ed_lc (ei_tup (ed_c r_MARKS)) eg_name (eb_test (ed_opV (ed_sl (ed_var 0) (eo_some (ed_var 2)) (eo_some (ed_op (ed_var 2) (ed_cbV rc_len) rd_addU))) rd_eq)) (ed_var 6) (by decide)))
  (es_seq (es_if (eb_test (ed_op (ed_cbV rc_len) (ed_c fun _ => .int _) rd_eq)) (es_ret (ed_c fun _ => .non)) es_nx)
  (es_seq (es_app (ed_ixV (ed_c fun _ => .int _)))
  (es_aug (ed_cb (eq_cons (ed_ixV (ed_c fun _ => .int _)) eq_nil) rc_len) rd_ip)))))))
  (es_ret (ed_var 1)))))
/-! ### can_be_read -/
abbrev s_can_be_read : Stmt := topS 17
abbrev N_can_be_read : List Str := ["words", "deep", "most", "ahead", "word"]
theorem sc_can_be_read : FnScope N_can_be_read ["words"] (defScope s_can_be_read) := ⟨rfl, rfl, rfl, by decide +kernel, rfl, by decide +kernel, by decide +kernel⟩
def b_can_be_read_0 : Fs := (sUnp (fTup (qCons (fC (.int 0)) (qCons (fC (.int 0)) (qCons (fC (.int 0)) qNil)))) (gT 3 (gsCons (gN 1) (gsCons (gN 2) (gsCons (gN 3) gsNil)))))
def b_can_be_read_1_0_0 : Fs := (sAug 1 (gI (fun i j => i + j)) (fC (.int 1)))
def b_can_be_read_1_0_1 : Fs := (sSet 2 (fCB gMx2 (qCons (fVar 2) (qCons (fVar 1) qNil))))
def b_can_be_read_1_0 : Fs := (sIf (fB (fOp gIn (fVar 4) (fTup (qCons (fC (.str [40])) (qCons (fC (.str [123])) qNil))))) (sSeq b_can_be_read_1_0_0 b_can_be_read_1_0_1) sNx)
def b_can_be_read_1_1_0 : Fs := (sSet 1 (fCB gMx2 (qCons (fOp gSub (fVar 1) (fC (.int 1))) (qCons (fC (.int 0)) qNil))))
def b_can_be_read_1_1 : Fs := (sIf (fB (fOp gIn (fVar 4) (fTup (qCons (fC (.str [41])) (qCons (fC (.str [125])) qNil))))) b_can_be_read_1_1_0 sNx)
def b_can_be_read_1_2_0 : Fs := (sAug 3 (gI (fun i j => i + j)) (fC (.int 1)))
def b_can_be_read_1_2 : Fs := (sIf (fOr (fB (fOp gIn (fVar 4) (fC d_EACH))) (fB (fOp gIn (fVar 4) (fTup (qCons (fC (.str [110, 111, 116])) (qCons (fC (.str [45])) (qCons (fC (.str [105, 102])) (qCons (fC (.str [45, 62])) (qCons (fC (.str [60, 45, 62])) qNil))))))))) b_can_be_read_1_2_0 sNx)
def b_can_be_read_1 : Fs := (sFor (iL (fVar 0)) (gN 4) (sSeq b_can_be_read_1_0 (sSeq b_can_be_read_1_1 b_can_be_read_1_2)))
def b_can_be_read_2 : Fs := (sRet (fV (fAnd (fB (fOp gLe (fCBV gLen 0) (fC (.int 300)))) (fB (fV (fAnd (fB (fOp gLe (fVar 2) (fC (.int 80)))) (fB (fOp gLe (fVar 3) (fC (.int 80))))))))))
def b_can_be_read : Fs :=
  (sSeq b_can_be_read_0 (sSeq b_can_be_read_1 b_can_be_read_2))
def m_can_be_read : List Dt → Option Dt := defF 1 5 b_can_be_read
set_option maxHeartbeats 4000000 in
theorem ok_can_be_read {P : Program} {w : World} {K : PySem.W.Frag} {mg : Str → Option Value} {base : Heap} {T : List Addr} {f : Addr} {fd : FuncData} (F : Fun K "can_be_read" "can_be_read" s_can_be_read f fd)
    {a_EACH : Addr} (g_EACH : mg "EACH" = some (.ref a_EACH)) (r_EACH : ∀ H : Hp, Rp K H (.ref a_EACH) d_EACH)
    {t_WORDS : Tok} (g_WORDS : mg "WORDS" = some (.int 300 t_WORDS))
    {t_DEEP : Tok} (g_DEEP : mg "DEEP" = some (.int 80 t_DEEP))
    (f_max : mg "max" = none)
    (f_len : mg "len" = none) :
    FnOk P w K mg base CX0 1 f fd ["words"] (spD K T m_can_be_read) := by
  refine fn_dl F sc_can_be_read T b_can_be_read rfl rfl ?_
  intro A outer s H E B hr ET
  refine ⟨_, (pss_cons (ps_asg (pe_tup (pa_cons pe_int (pa_cons pe_int (pa_cons pe_int pa_nil)))) (pg_tup rfl (pgs_cons (pg_name (i := 1) sc_can_be_read.nd rfl (by first | exact .inl rfl | exact .inr rfl)) (pgs_cons (pg_name (i := 2) sc_can_be_read.nd rfl (by first | exact .inl rfl | exact .inr rfl)) (pgs_cons (pg_name (i := 3) sc_can_be_read.nd rfl (by first | exact .inl rfl | exact .inr rfl)) pgs_nil)))))
  (pss_cons (ps_for PassesOwn.never rfl (pi_list (pv 0)) (pg_name (i := 4) sc_can_be_read.nd rfl (by first | exact .inl rfl | exact .inr rfl)) (pss_cons (ps_if (pt_cmpR (xop_in K hr) (pv 4) (pe_tup (pa_cons pe_str (pa_cons pe_str pa_nil))) (by rfl)) (pss_cons (ps_aug (i := 1) sc_can_be_read.nd rfl (by first | exact .inl rfl | exact .inr rfl) pe_int ip_add)
  (pss_one (ps_set (i := 2) sc_can_be_read.nd rfl (by first | exact .inl rfl | exact .inr rfl) (pe_callB (xmax2 K) (by rfl) f_max (by decide +kernel) (pa_cons (pv 2) (pa_cons (pv 1) pa_nil)))))) pss_nil)
  (pss_cons (ps_if (pt_cmpR (xop_in K hr) (pv 4) (pe_tup (pa_cons pe_str (pa_cons pe_str pa_nil))) (by rfl)) (pss_one (ps_set (i := 1) sc_can_be_read.nd rfl (by first | exact .inl rfl | exact .inr rfl) (pe_callB (xmax2 K) (by rfl) f_max (by decide +kernel) (pa_cons (pe_op op_sub (pv 1) pe_int) (pa_cons pe_int pa_nil))))) pss_nil)
  (pss_one (ps_if (PW.pt (pw_or (pt_cmpR (xop_in K hr) (pv 4) (pe_glob (v := .ref a_EACH) (by rfl) g_EACH rfl) (by rfl)) (pw_or1 (pt_cmpR (xop_in K hr) (pv 4) (pe_tup (pa_cons pe_str (pa_cons pe_str (pa_cons pe_str (pa_cons pe_str (pa_cons pe_str pa_nil)))))) (by rfl))))) (pss_one (ps_aug (i := 3) sc_can_be_read.nd rfl (by first | exact .inl rfl | exact .inr rfl) pe_int ip_add)) pss_nil)))))
  (pss_one (ps_ret (pe_and (pe_cmpR op_le (pe_callB (xlen K) (by rfl) f_len (by decide +kernel) (pa_cons (pv 0) pa_nil)) (pe_glob (v := .int 300) (by rfl) g_WORDS ⟨_, rfl⟩) (nomark _)) (pe_and (pe_cmpR op_le (pv 2) (pe_glob (v := .int 80) (by rfl) g_DEEP ⟨_, rfl⟩) (nomark _)) (pe_one (pe_cmpR op_le (pv 3) (pe_glob (v := .int 80) (by rfl) g_DEEP ⟨_, rfl⟩) (nomark _))))))))), ?_⟩
  unfold b_can_be_read
  exact (es_seq (es_unp (ed_tup (eq_cons (ed_c fun _ => .int _) (eq_cons (ed_c fun _ => .int _) (eq_cons (ed_c fun _ => .int _) eq_nil)))) (eg_tup (egs_cons eg_name (egs_cons eg_name (egs_cons eg_name egs_nil)))))
  (es_seq (es_for (ei_list (ed_var 0)) eg_name (es_seq (es_if (eb_test (ed_op (ed_var 4) (ed_tup (eq_cons (ed_c (rp_lit (by rfl))) (eq_cons (ed_c (rp_lit (by rfl))) eq_nil))) rd_in)) (es_seq (es_aug (ed_c fun _ => .int _) rd_ip)
  (es_set (ed_cb (eq_cons (ed_var 2) (eq_cons (ed_var 1) eq_nil)) rc_mx2))) es_nx)
  (es_seq (es_if (eb_test (ed_op (ed_var 4) (ed_tup (eq_cons (ed_c (rp_lit (by rfl))) (eq_cons (ed_c (rp_lit (by rfl))) eq_nil))) rd_in)) (es_set (ed_cb (eq_cons (ed_op (ed_var 1) (ed_c fun _ => .int _) rd_sub) (eq_cons (ed_c fun _ => .int _) eq_nil)) rc_mx2)) es_nx)
  (es_if (eb_or (eb_test (ed_op (ed_var 4) (ed_c r_EACH) rd_in)) (eb_test (ed_op (ed_var 4) (ed_tup (eq_cons (ed_c (rp_lit (by rfl))) (eq_cons (ed_c (rp_lit (by rfl))) (eq_cons (ed_c (rp_lit (by rfl))) (eq_cons (ed_c (rp_lit (by rfl))) (eq_cons (ed_c (rp_lit (by rfl))) eq_nil)))))) rd_in))) (es_aug (ed_c fun _ => .int _) rd_ip) es_nx))))
  (es_ret (ed_andV (ed_op (ed_cbV rc_len) (ed_c fun _ => .int _) rd_le) (ed_andV (ed_op (ed_var 2) (ed_c fun _ => .int _) rd_le) (ed_op (ed_var 3) (ed_c fun _ => .int _) rd_le))))))
/-! ### lines_of -/
abbrev s_lines_of : Stmt := topS 18
abbrev N_lines_of : List Str := ["text", "rows"]
theorem sc_lines_of : FnScope N_lines_of ["text"] (defScope s_lines_of) := ⟨rfl, rfl, rfl, by decide +kernel, rfl, by decide +kernel, by decide +kernel⟩
def b_lines_of_0_0 : Fs := (sRet (fLst qNil))
def b_lines_of_0 : Fs := (sIf (fB (fOp gEq (fVar 0) (fC (.str [])))) b_lines_of_0_0 sNx)
def b_lines_of_1 : Fs := (sSet 1 (fM1 gSplit (fVar 0) (fC (.str [10]))))
def b_lines_of_2 : Fs := (sRet (fIf (fB (fOp gEq (fIxV 1 (fUn gNeg (fC (.int 1)))) (fC (.str [])))) (fSl (fVar 1) oNone (oSome (fUn gNeg (fC (.int 1))))) (fVar 1)))
def b_lines_of : Fs :=
  (sSeq b_lines_of_0 (sSeq b_lines_of_1 b_lines_of_2))
def m_lines_of : List Dt → Option Dt := defF 1 2 b_lines_of
set_option maxHeartbeats 4000000 in
theorem ok_lines_of {P : Program} {w : World} {K : PySem.W.Frag} {mg : Str → Option Value} {base : Heap} {T : List Addr} {f : Addr} {fd : FuncData} (F : Fun K "lines_of" "lines_of" s_lines_of f fd)
     :
    FnOk P w K mg base CX0 1 f fd ["text"] (spD K T m_lines_of) := by
  refine fn_dl F sc_lines_of T b_lines_of rfl rfl ?_
  intro A outer s H E B hr ET
  refine ⟨_, (pss_cons (ps_if (pt_cmpR (xop_eq K hr) (pv 0) pe_str (nomark _)) (pss_one (ps_ret (pe_lst pa_nil))) pss_nil)
  (pss_cons (ps_set (i := 1) sc_lines_of.nd rfl (by first | exact .inl rfl | exact .inr rfl) (pe_split (pv 0) pe_str))
  (pss_one (ps_ret (pe_ifExp (pt_cmpR (xop_eq K hr) (pe_ix (xix K) (pv 1) (pe_un un_neg pe_int) (fun _ _ => rfl)) pe_str (nomark _)) (pe_slice (xsl K) (pv 1) po_none (po_some (pe_un un_neg pe_int))) (pv 1)))))), ?_⟩
  unfold b_lines_of
  exact (es_seq (es_if (eb_test (ed_op (ed_var 0) (ed_c (rp_lit (by rfl))) rd_eq)) (es_ret (ed_lst eq_nil)) es_nx)
  (es_seq (es_set (ed_m1 (ed_var 0) (ed_c (rp_lit (by rfl))) rm_split gSplit_str))
  (es_ret (ed_if (eb_test (ed_op (ed_ixV (ed_un (ed_c fun _ => .int _) rd_neg)) (ed_c (rp_lit (by rfl))) rd_eq)) (ed_sl (ed_var 1) eo_none (eo_some (ed_un (ed_c fun _ => .int _) rd_neg))) (ed_var 1)))))
/-! ### _law_cell -/
abbrev s__law_cell : Stmt := topS 20
abbrev N__law_cell : List Str := ["script", "k"]
theorem sc__law_cell : FnScope N__law_cell ["script", "k"] (defScope s__law_cell) := ⟨rfl, rfl, rfl, by decide +kernel, rfl, by decide +kernel, by decide +kernel⟩
def b__law_cell_0_0 : Fs := (sRet (fIxV 0 (fVar 1)))
def b__law_cell_0 : Fs := (sIf (fB (fOp gLt (fVar 1) (fCBV gLen 0))) b__law_cell_0_0 sNx)
def b__law_cell_1 : Fs := (sRet (fC (.int 0)))
def b__law_cell : Fs :=
  (sSeq b__law_cell_0 b__law_cell_1)
def m__law_cell : List Dt → Option Dt := defF 2 2 b__law_cell
set_option maxHeartbeats 4000000 in
theorem ok__law_cell {P : Program} {w : World} {K : PySem.W.Frag} {mg : Str → Option Value} {base : Heap} {T : List Addr} {f : Addr} {fd : FuncData} (F : Fun K "_law_cell" "_law_cell" s__law_cell f fd)
    (f_len : mg "len" = none) :
    FnOk P w K mg base CX0 1 f fd ["script", "k"] (spD K T m__law_cell) := by
  refine fn_dl F sc__law_cell T b__law_cell rfl rfl ?_
  intro A outer s H E B hr ET
  refine ⟨_, (pss_cons (ps_if (pt_cmpR op_lt (pv 1) (pe_callB (xlen K) (by rfl) f_len (by decide +kernel) (pa_cons (pv 0) pa_nil)) (nomark _)) (pss_one (ps_ret (pe_ix (xix K) (pv 0) (pv 1) (fun _ _ => rfl)))) pss_nil)
  (pss_one (ps_ret pe_int))), ?_⟩
  unfold b__law_cell
  exact (es_seq (es_if (eb_test (ed_op (ed_var 1) (ed_cbV rc_len) rd_lt)) (es_ret (ed_ixV (ed_var 1))) es_nx)
  (es_ret (ed_c fun _ => .int _)))
/-! ### _law_draw -/
abbrev s__law_draw : Stmt := topS 21
abbrev N__law_draw : List Str := ["script", "k", "sizes", "cell", "drawn", "size", "mixed", "j"]
theorem sc__law_draw : FnScope N__law_draw ["script", "k", "sizes"] (defScope s__law_draw) := ⟨rfl, rfl, rfl, by decide +kernel, rfl, by decide +kernel, by decide +kernel⟩
def b__law_draw_0 : Fs := (sSet 3 (fCall m__law_cell (qCons (fVar 0) (qCons (fVar 1) qNil))))
def b__law_draw_1_0 : Fs := (sSet 3 (fUn gNeg (fVar 3)))
def b__law_draw_1 : Fs := (sIf (fB (fOp gLt (fVar 3) (fC (.int 0)))) b__law_draw_1_0 sNx)
def b__law_draw_2 : Fs := (sSet 4 (fLst qNil))
def b__law_draw_3_0 : Fs := (sSet 3 (fOp gSub (fVar 3) (fOp gPow (fC (.int 10)) (fC (.int 18)))))
def b__law_draw_3_1_0 : Fs := (sApp 4 (fOp gMod (fVar 3) (fVar 5)))
def b__law_draw_3_1_1 : Fs := (sSet 3 (fOp gDiv (fVar 3) (fVar 5)))
def b__law_draw_3_1 : Fs := (sFor (iL (fVar 2)) (gN 5) (sSeq b__law_draw_3_1_0 b__law_draw_3_1_1))
def b__law_draw_3_2 : Fs := (sRet (fVar 4))
def b__law_draw_3 : Fs := (sIf (fB (fOp gGe (fVar 3) (fOp gPow (fC (.int 10)) (fC (.int 18))))) (sSeq b__law_draw_3_0 (sSeq b__law_draw_3_1 b__law_draw_3_2)) sNx)
def b__law_draw_4 : Fs := (sSet 6 (fOp gMod (fOp gAdd (fOp gAdd (fVar 3) (fC (.int 1))) (fOp gMul (fC (.int 31)) (fVar 1))) (fC (.int 2147483647))))
def b__law_draw_5_0 : Fs := (sSet 6 (fOp gMod (fOp gAdd (fOp gAdd (fOp gMul (fVar 6) (fC (.int 48271))) (fC (.int 11))) (fVar 7)) (fC (.int 2147483647))))
def b__law_draw_5_1 : Fs := (sSet 6 (fOp gMod (fOp gAdd (fOp gMul (fVar 6) (fC (.int 69621))) (fC (.int 3))) (fC (.int 2147483647))))
def b__law_draw_5_2 : Fs := (sApp 4 (fOp gMod (fOp gDiv (fVar 6) (fC (.int 7))) (fIxV 2 (fVar 7))))
def b__law_draw_5 : Fs := (sFor (iR1 (qCons (fCBV gLen 2) qNil)) (gN 7) (sSeq b__law_draw_5_0 (sSeq b__law_draw_5_1 b__law_draw_5_2)))
def b__law_draw_6 : Fs := (sRet (fVar 4))
def b__law_draw : Fs :=
  (sSeq b__law_draw_0 (sSeq b__law_draw_1 (sSeq b__law_draw_2 (sSeq b__law_draw_3 (sSeq b__law_draw_4 (sSeq b__law_draw_5 b__law_draw_6))))))
def m__law_draw : List Dt → Option Dt := defF 3 8 b__law_draw
set_option maxHeartbeats 4000000 in
theorem ok__law_draw {P : Program} {w : World} {K : PySem.W.Frag} {mg : Str → Option Value} {base : Heap} {T : List Addr} {f : Addr} {fd : FuncData} (F : Fun K "_law_draw" "_law_draw" s__law_draw f fd)
    {a__law_cell : Addr} {fd__law_cell : FuncData} (G__law_cell : FnOk P w K mg base CX0 1 a__law_cell fd__law_cell ["script", "k"] (spD K T m__law_cell)) (g__law_cell : mg "_law_cell" = some (.ref a__law_cell)) (K__law_cell : PySem.W.keepIn K (.ref a__law_cell) = true) (B__law_cell : Binds K fd__law_cell ["script", "k"] [])
    (f_range : mg "range" = none)
    (f_len : mg "len" = none) :
    FnOk P w K mg base CX0 2 f fd ["script", "k", "sizes"] (spD K T m__law_draw) := by
  refine fn_dl F sc__law_draw T b__law_draw rfl rfl ?_
  intro A outer s H E B hr ET
  refine ⟨_, (pss_cons (ps_set (i := 3) sc__law_draw.nd rfl (by first | exact .inl rfl | exact .inr rfl) (pe_call G__law_cell (hr.mono (by decide)) (by rfl) g__law_cell K__law_cell B__law_cell .nil pass0 (pa_cons (pv 0) (pa_cons (pv 1) pa_nil))))
  (pss_cons (ps_if (pt_cmpR op_lt (pv 3) pe_int (nomark _)) (pss_one (ps_set (i := 3) sc__law_draw.nd rfl (by first | exact .inl rfl | exact .inr rfl) (pe_un un_neg (pv 3)))) pss_nil)
  (pss_cons (ps_set (i := 4) sc__law_draw.nd rfl (by first | exact .inl rfl | exact .inr rfl) (pe_lst pa_nil))
  (pss_cons (ps_if (pt_cmpR op_ge (pv 3) (pe_op op_pow pe_int pe_int) (nomark _)) (pss_cons (ps_set (i := 3) sc__law_draw.nd rfl (by first | exact .inl rfl | exact .inr rfl) (pe_op op_sub (pv 3) (pe_op op_pow pe_int pe_int)))
  (pss_cons (ps_for PassesOwn.never rfl (pi_list (pv 2)) (pg_name (i := 5) sc__law_draw.nd rfl (by first | exact .inl rfl | exact .inr rfl)) (pss_cons (ps_expr (pe_bm PySem.F.plainAttrs_list PySem.F.slot_list_append PySem.F.type_list_append mt_append (pv 4) (pa_cons (pe_op op_mod (pv 3) (pv 5)) pa_nil)))
  (pss_one (ps_set (i := 3) sc__law_draw.nd rfl (by first | exact .inl rfl | exact .inr rfl) (pe_op op_fdiv (pv 3) (pv 5))))))
  (pss_one (ps_ret (pv 4))))) pss_nil)
  (pss_cons (ps_set (i := 6) sc__law_draw.nd rfl (by first | exact .inl rfl | exact .inr rfl) (pe_op op_mod (pe_op (xop_add K) (pe_op (xop_add K) (pv 3) pe_int) (pe_op op_mulU pe_int (pv 1))) pe_int))
  (pss_cons (ps_for PassesOwn.never rfl (pi_range1 (by rfl) f_range (pa_cons (pe_callB (xlen K) (by rfl) f_len (by decide +kernel) (pa_cons (pv 2) pa_nil)) pa_nil)) (pg_name (i := 7) sc__law_draw.nd rfl (by first | exact .inl rfl | exact .inr rfl)) (pss_cons (ps_set (i := 6) sc__law_draw.nd rfl (by first | exact .inl rfl | exact .inr rfl) (pe_op op_mod (pe_op (xop_add K) (pe_op (xop_add K) (pe_op op_mulU (pv 6) pe_int) pe_int) (pv 7)) pe_int))
  (pss_cons (ps_set (i := 6) sc__law_draw.nd rfl (by first | exact .inl rfl | exact .inr rfl) (pe_op op_mod (pe_op (xop_add K) (pe_op op_mulU (pv 6) pe_int) pe_int) pe_int))
  (pss_one (ps_expr (pe_bm PySem.F.plainAttrs_list PySem.F.slot_list_append PySem.F.type_list_append mt_append (pv 4) (pa_cons (pe_op op_mod (pe_op op_fdiv (pv 6) pe_int) (pe_ix (xix K) (pv 2) (pv 7) (fun _ _ => rfl))) pa_nil)))))))
  (pss_one (ps_ret (pv 4))))))))), ?_⟩
  unfold b__law_draw
  exact (es_seq (es_set (ed_call ET (eq_cons (ed_var 0) (eq_cons (ed_var 1) eq_nil))))
  (es_seq (es_if (eb_test (ed_op (ed_var 3) (ed_c fun _ => .int _) rd_lt)) (es_set (ed_un (ed_var 3) rd_neg)) es_nx)
  (es_seq (es_set (ed_lst eq_nil))
  (es_seq (es_if (eb_test (ed_op (ed_var 3) (ed_op (ed_c fun _ => .int _) (ed_c fun _ => .int _) rd_pow) rd_ge)) (es_seq (es_set (ed_op (ed_var 3) (ed_op (ed_c fun _ => .int _) (ed_c fun _ => .int _) rd_pow) rd_sub))
  (es_seq (es_for (ei_list (ed_var 2)) eg_name (es_seq (es_app (ed_op (ed_var 3) (ed_var 5) rd_mod))
  (es_set (ed_op (ed_var 3) (ed_var 5) rd_div))))
  (es_ret (ed_var 4)))) es_nx)
  (es_seq (es_set (ed_op (ed_op (ed_op (ed_var 3) (ed_c fun _ => .int _) rd_addU) (ed_op (ed_c fun _ => .int _) (ed_var 1) rd_mulU) rd_addU) (ed_c fun _ => .int _) rd_mod))
  (es_seq (es_for (ei_r1 (eq_cons (ed_cbV rc_len) eq_nil)) eg_name (es_seq (es_set (ed_op (ed_op (ed_op (ed_op (ed_var 6) (ed_c fun _ => .int _) rd_mulU) (ed_c fun _ => .int _) rd_addU) (ed_var 7) rd_addU) (ed_c fun _ => .int _) rd_mod))
  (es_seq (es_set (ed_op (ed_op (ed_op (ed_var 6) (ed_c fun _ => .int _) rd_mulU) (ed_c fun _ => .int _) rd_addU) (ed_c fun _ => .int _) rd_mod))
  (es_app (ed_op (ed_op (ed_var 6) (ed_c fun _ => .int _) rd_div) (ed_ixV (ed_var 7)) rd_mod)))))
  (es_ret (ed_var 4))))))))
/-! ### law -/
abbrev s_law : Stmt := topS 22
abbrev N_law : List Str := ["script", "good", "marks", "line", "due", "at", "digits", "word", "names", "closed", "numbers", "wrong", "long", "rows", "text", "told", "words", "row"]
theorem sc_law : FnScope N_law ["script"] (defScope s_law) := ⟨rfl, rfl, rfl, by decide +kernel, rfl, by decide +kernel, by decide +kernel⟩
def b_law_0 : Fs := (sSet 1 (fLst (qCons (fC (.str [97])) (qCons (fC (.str [120, 49])) (qCons (fC (.str [119, 105, 115, 104])) (qCons (fC (.str [117, 95, 50])) (qCons (fC (.str [48])) (qCons (fC (.str [49, 55])) (qCons (fC (.str [119, 105, 116, 104, 105, 110])) (qCons (fC (.str [98, 50, 51, 52, 53, 54, 55, 56, 57, 48, 49, 95])) (qCons (fC (.str [57, 57, 57, 57, 57, 57])) (qCons (fC (.str [103, 105, 118, 101, 110])) qNil))))))))))))
def b_law_1 : Fs := (sSet 2 (fLst (qCons (fC (.str [60, 45, 62])) (qCons (fC (.str [45, 62])) (qCons (fC (.str [60, 61])) (qCons (fC (.str [62, 61])) (qCons (fC (.str [46, 46])) (qCons (fC (.str [40])) (qCons (fC (.str [41])) (qCons (fC (.str [123])) (qCons (fC (.str [125])) (qCons (fC (.str [44])) (qCons (fC (.str [58])) (qCons (fC (.str [61])) (qCons (fC (.str [35])) (qCons (fC (.str [60])) (qCons (fC (.str [62])) (qCons (fC (.str [43])) (qCons (fC (.str [45])) (qCons (fC (.str [42])) (qCons (fC (.str [47])) qNil)))))))))))))))))))))
def b_law_2 : Fs := (sPar 3 4 (aCons (fC (.str [])) (aCons (fLst qNil) aNil)))
def b_law_3_0 : Fs := (sSet 6 (fCall m__law_draw (qCons (fVar 0) (qCons (fVar 5) (qCons (fLst (qCons (fC (.int 10)) (qCons (fC (.int 19)) (qCons (fC (.int 3)) (qCons (fC (.int 2)) qNil))))) qNil)))))
def b_law_3_1 : Fs := (sSet 7 (fIf (fB (fOp gEq (fIxV 6 (fC (.int 3))) (fC (.int 0)))) (fIxV 1 (fIxV 6 (fC (.int 0)))) (fIxV 2 (fIxV 6 (fC (.int 1))))))
def b_law_3_2_0 : Fs := (sSet 3 (fOp gAdd (fVar 3) (fVar 7)))
def b_law_3_2e_0 : Fs := (sSet 3 (fOp gAdd (fOp gAdd (fVar 3) (fOp gMul (fC (.str [32])) (fOp gAdd (fC (.int 1)) (fIxV 6 (fC (.int 2)))))) (fVar 7)))
def b_law_3_2 : Fs := (sIf (fAnd (fB (fOp gGt (fVar 5) (fC (.int 0)))) (fAnd (fB (fOp gEq (fIxV 6 (fC (.int 2))) (fC (.int 0)))) (fB (fOp gNe (fOpV gIn (fIxV 4 (fUn gNeg (fC (.int 1)))) 1) (fOpV gIn (fVar 7) 1))))) b_law_3_2_0 b_law_3_2e_0)
def b_law_3_3 : Fs := (sApp 4 (fVar 7))
def b_law_3 : Fs := (sFor (iR1 (qCons (fC (.int 12)) qNil)) (gN 5) (sSeq b_law_3_0 (sSeq b_law_3_1 (sSeq b_law_3_2 b_law_3_3))))
def b_law_4_0 : Fs := (sRet (fC (.bl false)))
def b_law_4 : Fs := (sIf (fOr (fB (fOpV gNe (fCall m_words_of (qCons (fVar 3) qNil)) 4)) (fOr (fB (fOp gNe (fCall m_words_of (qCons (fC (.str [])) qNil)) (fLst qNil))) (fB (fOp gNe (fCall m_words_of (qCons (fC (.str [32, 32, 32])) qNil)) (fLst qNil))))) b_law_4_0 sNx)
def b_law_5 : Fs := (sSet 8 (fLst (qCons (fTup (qCons (fC (.str [97])) (qCons (fC (.bl true)) qNil))) (qCons (fTup (qCons (fC (.str [90, 57, 95])) (qCons (fC (.bl true)) qNil))) (qCons (fTup (qCons (fC (.str [])) (qCons (fC (.bl false)) qNil))) (qCons (fTup (qCons (fC (.str [95, 97])) (qCons (fC (.bl false)) qNil))) (qCons (fTup (qCons (fC (.str [49, 97])) (qCons (fC (.bl false)) qNil))) (qCons (fTup (qCons (fC (.str [98, 50, 51, 52, 53, 54, 55, 56, 57, 48, 49, 95])) (qCons (fC (.bl true)) qNil))) (qCons (fTup (qCons (fC (.str [98, 50, 51, 52, 53, 54, 55, 56, 57, 48, 49, 95, 99])) (qCons (fC (.bl false)) qNil))) (qCons (fTup (qCons (fC (.str [97, 108, 108])) (qCons (fC (.bl false)) qNil))) (qCons (fTup (qCons (fC (.str [100, 105, 115, 116, 97, 110, 99, 101])) (qCons (fC (.bl false)) qNil))) (qCons (fTup (qCons (fC (.str [97, 108, 108, 115])) (qCons (fC (.bl true)) qNil))) qNil))))))))))))
def b_law_6_0 : Fs := (sRet (fC (.bl false)))
def b_law_6 : Fs := (sIf (tNot' (fB (fCB gAll (qCons (fLc (iL (fVar 8)) (gT 2 (gsCons (gN 14) (gsCons (gN 15) gsNil))) (fun env => some (true, env)) (fOpV gEq (fCall m_is_name (qCons (fVar 14) qNil)) 15) [14, 15]) qNil)))) b_law_6_0 sNx)
def b_law_7 : Fs := (sSet 9 (fC (.str [116, 104, 105, 110, 103, 115, 32, 116, 114, 117, 116, 104, 32, 110, 117, 109, 98, 101, 114, 32, 116, 104, 105, 110, 103, 32, 115, 101, 116, 32, 114, 101, 108, 97, 116, 105, 111, 110, 32, 109, 97, 112, 32, 103, 114, 97, 112, 104, 32, 100, 105, 103, 114, 97, 112, 104, 32, 108, 101, 116, 32, 100, 101, 102, 32, 119, 105, 115, 104, 32, 115, 111, 102, 116, 32, 112, 114, 105, 99, 101, 32, 119, 101, 105, 103, 104, 116, 32, 105, 110, 32, 111, 102, 32, 111, 110, 32, 102, 114, 111, 109, 32, 116, 111, 32, 110, 111, 116, 32, 97, 110, 100, 32, 111, 114, 32, 119, 105, 116, 104, 105, 110, 32, 105, 102, 32, 116, 104, 101, 110, 32, 101, 108, 115, 101])))
def b_law_8 : Fs := (sSet 9 (fOp gAdd (fVar 9) (fC (.str [32, 121, 101, 115, 32, 110, 111, 32, 103, 105, 118, 101, 110, 32, 97, 108, 108, 32, 115, 111, 109, 101, 32, 101, 120, 97, 99, 116, 108, 121, 32, 97, 116, 108, 101, 97, 115, 116, 32, 97, 116, 109, 111, 115, 116, 32, 99, 111, 117, 110, 116, 32, 115, 117, 109, 32, 108, 101, 97, 115, 116, 32, 109, 111, 115, 116, 32, 116, 104, 111, 115, 101, 32, 101, 100, 103, 101, 32, 112, 97, 116, 104, 32, 106, 111, 105, 110, 101, 100, 32, 116, 114, 101, 101, 108, 105, 107, 101, 32, 114, 111, 117, 110, 100, 32, 115, 105, 122, 101, 32, 100, 101, 103, 114, 101, 101, 32, 110, 101, 97, 114]))))
def b_law_9 : Fs := (sSet 9 (fOp gAdd (fVar 9) (fC (.str [32, 100, 105, 115, 116, 97, 110, 99, 101, 32, 100, 105, 118, 32, 109, 111, 100, 32, 109, 111, 100, 101, 108, 32, 119, 101, 105, 103, 104, 32, 110, 116, 104, 32, 102, 111, 108, 108, 111, 119, 115, 32, 102, 111, 114, 99, 101, 100, 32, 99, 111, 114, 101, 32, 109, 101, 110, 100, 32, 108, 105, 107, 101, 108, 105, 101, 115, 116, 32, 109, 97, 114, 103, 105, 110, 97, 108, 32, 116, 104, 101, 105, 114, 115, 32, 115, 101, 101, 115, 32, 119, 105, 110, 32, 118, 97, 108, 117, 101, 32, 115, 116, 97, 98, 108, 101, 32, 115, 116, 97, 98, 108, 101, 115]))))
def b_law_10_0 : Fs := (sRet (fC (.bl false)))
def b_law_10 : Fs := (sIf (fB (fCB gAny (qCons (fLc (iL (fM1 gSplit (fVar 9) (fC (.str [32])))) (gN 7) (fun env => some (true, env)) (fCall m_is_name (qCons (fVar 7) qNil)) [7]) qNil))) b_law_10_0 sNx)
def b_law_11 : Fs := (sSet 10 (fLst (qCons (fTup (qCons (fC (.str [48])) (qCons (fC (.bl true)) qNil))) (qCons (fTup (qCons (fC (.str [48, 48])) (qCons (fC (.bl false)) qNil))) (qCons (fTup (qCons (fC (.str [55])) (qCons (fC (.bl true)) qNil))) (qCons (fTup (qCons (fC (.str [48, 55, 48])) (qCons (fC (.bl false)) qNil))) (qCons (fTup (qCons (fOp gMul (fC (.str [57])) (fC (.int 130))) (qCons (fC (.bl true)) qNil))) (qCons (fTup (qCons (fOp gMul (fC (.str [57])) (fC (.int 131))) (qCons (fC (.bl false)) qNil))) (qCons (fTup (qCons (fC (.str [])) (qCons (fC (.bl false)) qNil))) (qCons (fTup (qCons (fC (.str [97])) (qCons (fC (.bl false)) qNil))) qNil))))))))))
def b_law_12_0 : Fs := (sRet (fC (.bl false)))
def b_law_12 : Fs := (sIf (tNot' (fB (fCB gAll (qCons (fLc (iL (fVar 10)) (gT 2 (gsCons (gN 14) (gsCons (gN 15) gsNil))) (fun env => some (true, env)) (fOpV gEq (fCall m_is_number (qCons (fVar 14) qNil)) 15) [14, 15]) qNil)))) b_law_12_0 sNx)
def b_law_13 : Fs := (sSet 6 (fCall m__law_draw (qCons (fVar 0) (qCons (fC (.int 20)) (qCons (fLst (qCons (fC (.int 8)) (qCons (fC (.int 4)) qNil))) qNil)))))
def b_law_14 : Fs := (sSet 11 (fOp gIx (fLst (qCons (fC (.str [97, 32, 63, 32, 98])) (qCons (fC (.str [98, 50, 51, 52, 53, 54, 55, 56, 57, 48, 49, 95, 99])) (qCons (fC (.str [48, 49])) (qCons (fC (.str [49, 97])) (qCons (fC (.str [95])) (qCons (fC (.str [97, 9, 98])) (qCons (fC (.str [97, 32, 46, 32, 98])) (qCons (fOp gMul (fC (.str [57])) (fC (.int 131))) qNil))))))))) (fIxV 6 (fC (.int 0)))))
def b_law_15_0 : Fs := (sRet (fC (.bl false)))
def b_law_15 : Fs := (sIf (fB (fOp gIsN (fCall m_words_of (qCons (fOp gAdd (fOp gAdd (fVar 3) (fC (.str [32]))) (fVar 11)) qNil)) (fC .non))) b_law_15_0 sNx)
def b_law_16 : Fs := (sSet 12 (fLst (qCons (fTup (qCons (fRep (fLst (qCons (fC (.str [97])) qNil)) (fC (.int 300))) (qCons (fC (.bl true)) qNil))) (qCons (fTup (qCons (fRep (fLst (qCons (fC (.str [97])) qNil)) (fC (.int 301))) (qCons (fC (.bl false)) qNil))) (qCons (fTup (qCons (fOp gAdd (fRep (fLst (qCons (fC (.str [40])) qNil)) (fC (.int 80))) (fRep (fLst (qCons (fC (.str [41])) qNil)) (fC (.int 80)))) (qCons (fC (.bl true)) qNil))) (qCons (fTup (qCons (fRep (fLst (qCons (fC (.str [40])) qNil)) (fC (.int 81))) (qCons (fC (.bl false)) qNil))) qNil))))))
def b_law_17 : Fs := (sSet 12 (fOp gAdd (fVar 12) (fLst (qCons (fTup (qCons (fOp gAdd (fOp gAdd (fRep (fLst (qCons (fC (.str [40])) qNil)) (fC (.int 60))) (fLst (qCons (fC (.str [41])) qNil))) (fRep (fLst (qCons (fC (.str [40])) qNil)) (fC (.int 30)))) (qCons (fC (.bl false)) qNil))) qNil))))
def b_law_18 : Fs := (sSet 12 (fOp gAdd (fVar 12) (fLst (qCons (fTup (qCons (fRep (fLst (qCons (fC (.str [110, 111, 116])) qNil)) (fC (.int 80))) (qCons (fC (.bl true)) qNil))) (qCons (fTup (qCons (fRep (fLst (qCons (fC (.str [45])) qNil)) (fC (.int 81))) (qCons (fC (.bl false)) qNil))) (qCons (fTup (qCons (fRep (fLst (qCons (fC (.str [40])) (qCons (fC (.str [41])) qNil))) (fC (.int 100))) (qCons (fC (.bl true)) qNil))) (qCons (fTup (qCons (fRep (fLst (qCons (fC (.str [115, 111, 109, 101])) qNil)) (fC (.int 81))) (qCons (fC (.bl false)) qNil))) qNil)))))))
def b_law_19 : Fs := (sSet 12 (fOp gAdd (fVar 12) (fLst (qCons (fTup (qCons (fRep (fLst (qCons (fC (.str [123])) qNil)) (fC (.int 81))) (qCons (fC (.bl false)) qNil))) (qCons (fTup (qCons (fRep (fLst (qCons (fC (.str [105, 102])) qNil)) (fC (.int 81))) (qCons (fC (.bl false)) qNil))) (qCons (fTup (qCons (fRep (fLst (qCons (fC (.str [45, 62])) qNil)) (fC (.int 81))) (qCons (fC (.bl false)) qNil))) (qCons (fTup (qCons (fRep (fLst (qCons (fC (.str [60, 45, 62])) (qCons (fC (.str [97, 108, 108])) qNil))) (fC (.int 41))) (qCons (fC (.bl false)) qNil))) (qCons (fTup (qCons (fRep (fLst (qCons (fC (.str [123])) (qCons (fC (.str [125])) (qCons (fC (.str [40])) qNil)))) (fC (.int 80))) (qCons (fC (.bl true)) qNil))) qNil))))))))
def b_law_20_0 : Fs := (sRet (fC (.bl false)))
def b_law_20 : Fs := (sIf (tNot' (fB (fCB gAll (qCons (fLc (iL (fVar 12)) (gT 2 (gsCons (gN 16) (gsCons (gN 15) gsNil))) (fun env => some (true, env)) (fOpV gEq (fCall m_can_be_read (qCons (fVar 16) qNil)) 15) [16, 15]) qNil)))) b_law_20_0 sNx)
def b_law_21 : Fs := (sSet 13 (fLc (iR1 (qCons (fC (.int 4)) qNil)) (gN 5) (fun env => some (true, env)) (fOp gIx (fLst (qCons (fC (.str [])) (qCons (fC (.str [97, 32, 98])) (qCons (fC (.str [])) (qCons (fC (.str [99])) qNil))))) (fOp gMod (fOp gAdd (fVar 5) (fIxV 6 (fC (.int 1)))) (fC (.int 4)))) [5]))
def b_law_22 : Fs := (sRet (fV (fAnd (fB (fOpV gEq (fCall m_lines_of (qCons (fM1 gJoin (fC (.str [])) (fLc (iL (fVar 13)) (gN 17) (fun env => some (true, env)) (fOp gAdd (fVar 17) (fC (.str [10]))) [17])) qNil)) 13)) (fB (fV (fAnd (fB (fOp gEq (fCall m_lines_of (qCons (fC (.str [97, 10, 98])) qNil)) (fLst (qCons (fC (.str [97])) (qCons (fC (.str [98])) qNil))))) (fB (fOp gEq (fCall m_lines_of (qCons (fC (.str [])) qNil)) (fLst qNil)))))))))
def b_law : Fs :=
  (sSeq b_law_0 (sSeq b_law_1 (sSeq b_law_2 (sSeq b_law_3 (sSeq b_law_4 (sSeq b_law_5 (sSeq b_law_6 (sSeq b_law_7 (sSeq b_law_8 (sSeq b_law_9 (sSeq b_law_10 (sSeq b_law_11 (sSeq b_law_12 (sSeq b_law_13 (sSeq b_law_14 (sSeq b_law_15 (sSeq b_law_16 (sSeq b_law_17 (sSeq b_law_18 (sSeq b_law_19 (sSeq b_law_20 (sSeq b_law_21 b_law_22))))))))))))))))))))))
def m_law : List Dt → Option Dt := defF 1 18 b_law
set_option maxHeartbeats 4000000 in
theorem ok_law {P : Program} {w : World} {K : PySem.W.Frag} {mg : Str → Option Value} {base : Heap} {T : List Addr} {f : Addr} {fd : FuncData} (F : Fun K "law" "law" s_law f fd)
    {a__law_draw : Addr} {fd__law_draw : FuncData} (G__law_draw : FnOk P w K mg base CX0 2 a__law_draw fd__law_draw ["script", "k", "sizes"] (spD K T m__law_draw)) (g__law_draw : mg "_law_draw" = some (.ref a__law_draw)) (K__law_draw : PySem.W.keepIn K (.ref a__law_draw) = true) (B__law_draw : Binds K fd__law_draw ["script", "k", "sizes"] [])
    {a_words_of : Addr} {fd_words_of : FuncData} (G_words_of : FnOk P w K mg base CX0 3 a_words_of fd_words_of ["line"] (spD K T m_words_of)) (g_words_of : mg "words_of" = some (.ref a_words_of)) (K_words_of : PySem.W.keepIn K (.ref a_words_of) = true) (B_words_of : Binds K fd_words_of ["line"] [])
    {a_is_name : Addr} {fd_is_name : FuncData} (G_is_name : FnOk P w K mg base CX0 2 a_is_name fd_is_name ["text"] (spD K T m_is_name)) (g_is_name : mg "is_name" = some (.ref a_is_name)) (K_is_name : PySem.W.keepIn K (.ref a_is_name) = true) (B_is_name : Binds K fd_is_name ["text"] [])
    {a_is_number : Addr} {fd_is_number : FuncData} (G_is_number : FnOk P w K mg base CX0 2 a_is_number fd_is_number ["text"] (spD K T m_is_number)) (g_is_number : mg "is_number" = some (.ref a_is_number)) (K_is_number : PySem.W.keepIn K (.ref a_is_number) = true) (B_is_number : Binds K fd_is_number ["text"] [])
    {a_can_be_read : Addr} {fd_can_be_read : FuncData} (G_can_be_read : FnOk P w K mg base CX0 1 a_can_be_read fd_can_be_read ["words"] (spD K T m_can_be_read)) (g_can_be_read : mg "can_be_read" = some (.ref a_can_be_read)) (K_can_be_read : PySem.W.keepIn K (.ref a_can_be_read) = true) (B_can_be_read : Binds K fd_can_be_read ["words"] [])
    {a_lines_of : Addr} {fd_lines_of : FuncData} (G_lines_of : FnOk P w K mg base CX0 1 a_lines_of fd_lines_of ["text"] (spD K T m_lines_of)) (g_lines_of : mg "lines_of" = some (.ref a_lines_of)) (K_lines_of : PySem.W.keepIn K (.ref a_lines_of) = true) (B_lines_of : Binds K fd_lines_of ["text"] [])
    (f_range : mg "range" = none)
    (f_all : mg "all" = none)
    (f_any : mg "any" = none) :
    FnOk P w K mg base CX0 4 f fd ["script"] (spD K T m_law) := by
  refine fn_dl F sc_law T b_law rfl rfl ?_
  intro A outer s H E B hr ET
  refine ⟨_, (pss_cons (ps_set (i := 1) sc_law.nd rfl (by first | exact .inl rfl | exact .inr rfl) (pe_lst (pa_cons pe_str (pa_cons pe_str (pa_cons pe_str (pa_cons pe_str (pa_cons pe_str (pa_cons pe_str (pa_cons pe_str (pa_cons pe_str (pa_cons pe_str (pa_cons pe_str pa_nil))))))))))))
  (pss_cons (ps_set (i := 2) sc_law.nd rfl (by first | exact .inl rfl | exact .inr rfl) (pe_lst (pa_cons pe_str (pa_cons pe_str (pa_cons pe_str (pa_cons pe_str (pa_cons pe_str (pa_cons pe_str (pa_cons pe_str (pa_cons pe_str (pa_cons pe_str (pa_cons pe_str (pa_cons pe_str (pa_cons pe_str (pa_cons pe_str (pa_cons pe_str (pa_cons pe_str (pa_cons pe_str (pa_cons pe_str (pa_cons pe_str (pa_cons pe_str pa_nil)))))))))))))))))))))
  (pss_cons (ps_par (i := 3) (j := 4) rfl sc_law.nd rfl rfl (by decide) rfl rfl (pa_cons pe_str (pa_cons (pe_lst pa_nil) pa_nil)) (by rfl))
  (pss_cons (ps_for PassesOwn.never rfl (pi_range1 (by rfl) f_range (pa_cons pe_int pa_nil)) (pg_name (i := 5) sc_law.nd rfl (by first | exact .inl rfl | exact .inr rfl)) (pss_cons (ps_set (i := 6) sc_law.nd rfl (by first | exact .inl rfl | exact .inr rfl) (pe_call G__law_draw (hr.mono (by decide)) (by rfl) g__law_draw K__law_draw B__law_draw .nil pass0 (pa_cons (pv 0) (pa_cons (pv 5) (pa_cons (pe_lst (pa_cons pe_int (pa_cons pe_int (pa_cons pe_int (pa_cons pe_int pa_nil))))) pa_nil)))))
  (pss_cons (ps_set (i := 7) sc_law.nd rfl (by first | exact .inl rfl | exact .inr rfl) (pe_ifExp (pt_cmpR (xop_eq K hr) (pe_ix (xix K) (pv 6) pe_int (fun _ _ => rfl)) pe_int (nomark _)) (pe_ix (xix K) (pv 1) (pe_ix (xix K) (pv 6) pe_int (fun _ _ => rfl)) (fun _ _ => rfl)) (pe_ix (xix K) (pv 2) (pe_ix (xix K) (pv 6) pe_int (fun _ _ => rfl)) (fun _ _ => rfl))))
  (pss_cons (ps_if (PW.pt (pw_and (pt_cmpR op_gt (pv 5) pe_int (nomark _)) (pw_and (pt_cmpR (xop_eq K hr) (pe_ix (xix K) (pv 6) pe_int (fun _ _ => rfl)) pe_int (nomark _)) (pw_and1 (pt_cmpR (xop_ne K hr) (pe_cmpR (xop_in K hr) (pe_ix (xix K) (pv 4) (pe_un un_neg pe_int) (fun _ _ => rfl)) (pv 1) (by rfl)) (pe_cmpR (xop_in K hr) (pv 7) (pv 1) (by rfl)) (nomark _)))))) (pss_one (ps_set (i := 3) sc_law.nd rfl (by first | exact .inl rfl | exact .inr rfl) (pe_op (xop_add K) (pv 3) (pv 7)))) (pss_one (ps_set (i := 3) sc_law.nd rfl (by first | exact .inl rfl | exact .inr rfl) (pe_op (xop_add K) (pe_op (xop_add K) (pv 3) (pe_op op_mulU pe_str (pe_op (xop_add K) pe_int (pe_ix (xix K) (pv 6) pe_int (fun _ _ => rfl))))) (pv 7)))))
  (pss_one (ps_expr (pe_bm PySem.F.plainAttrs_list PySem.F.slot_list_append PySem.F.type_list_append mt_append (pv 4) (pa_cons (pv 7) pa_nil))))))))
  (pss_cons (ps_if (PW.pt (pw_or (pt_cmpR (xop_ne K hr) (pe_call G_words_of (hr.mono (by decide)) (by rfl) g_words_of K_words_of B_words_of .nil pass0 (pa_cons (pv 3) pa_nil)) (pv 4) (nomark _)) (pw_or (pt_cmpR (xop_ne K hr) (pe_call G_words_of (hr.mono (by decide)) (by rfl) g_words_of K_words_of B_words_of .nil pass0 (pa_cons pe_str pa_nil)) (pe_lst pa_nil) (nomark _)) (pw_or1 (pt_cmpR (xop_ne K hr) (pe_call G_words_of (hr.mono (by decide)) (by rfl) g_words_of K_words_of B_words_of .nil pass0 (pa_cons pe_str pa_nil)) (pe_lst pa_nil) (nomark _)))))) (pss_one (ps_ret pe_bl)) pss_nil)
  (pss_cons (ps_set (i := 8) sc_law.nd rfl (by first | exact .inl rfl | exact .inr rfl) (pe_lst (pa_cons (pe_tup (pa_cons pe_str (pa_cons pe_bl pa_nil))) (pa_cons (pe_tup (pa_cons pe_str (pa_cons pe_bl pa_nil))) (pa_cons (pe_tup (pa_cons pe_str (pa_cons pe_bl pa_nil))) (pa_cons (pe_tup (pa_cons pe_str (pa_cons pe_bl pa_nil))) (pa_cons (pe_tup (pa_cons pe_str (pa_cons pe_bl pa_nil))) (pa_cons (pe_tup (pa_cons pe_str (pa_cons pe_bl pa_nil))) (pa_cons (pe_tup (pa_cons pe_str (pa_cons pe_bl pa_nil))) (pa_cons (pe_tup (pa_cons pe_str (pa_cons pe_bl pa_nil))) (pa_cons (pe_tup (pa_cons pe_str (pa_cons pe_bl pa_nil))) (pa_cons (pe_tup (pa_cons pe_str (pa_cons pe_bl pa_nil))) pa_nil))))))))))))
  (pss_cons (ps_if (pt_not (pt_val (pe_callB (xall K) (by rfl) f_all (by decide +kernel) (pa_cons (pe_lc (own := [("text", 14), ("told", 15)]) (g := gTup K 2 (gCons (gName 14) (gCons (gName 15) (gNil)))) (tt := tYes) rfl sc_law.nd (pi_list (pv 8)) (blkOk_by (N := N_law) (sc := defScope s_law) (by decide +kernel)) (fun _ _ _ _ _ => (pg_tup rfl (pgs_cons (pg_name (i := 14) sc_law.nd rfl (by first | exact .inl rfl | exact .inr rfl)) (pgs_cons (pg_name (i := 15) sc_law.nd rfl (by first | exact .inl rfl | exact .inr rfl)) pgs_nil)))) (fun _ _ _ _ _ => pts_nil) (fun _ _ _ _ _ => (pe_cmpR (xop_eq K hr) (pe_call G_is_name (hr.mono (by decide)) (by rfl) g_is_name K_is_name B_is_name .nil pass0 (pa_cons (pv 14) pa_nil)) (pv 15) (nomark _)))) pa_nil)))) (pss_one (ps_ret pe_bl)) pss_nil)
  (pss_cons (ps_set (i := 9) sc_law.nd rfl (by first | exact .inl rfl | exact .inr rfl) pe_str)
  (pss_cons (ps_set (i := 9) sc_law.nd rfl (by first | exact .inl rfl | exact .inr rfl) (pe_op (xop_add K) (pv 9) pe_str))
  (pss_cons (ps_set (i := 9) sc_law.nd rfl (by first | exact .inl rfl | exact .inr rfl) (pe_op (xop_add K) (pv 9) pe_str))
  (pss_cons (ps_if (pt_val (pe_callB (xany K) (by rfl) f_any (by decide +kernel) (pa_cons (pe_lc (own := [("word", 7)]) (g := gName 7) (tt := tYes) rfl sc_law.nd (pi_list (pe_split (pv 9) pe_str)) (blkOk_by (N := N_law) (sc := defScope s_law) (by decide +kernel)) (fun _ _ _ _ _ => (pg_name (i := 7) sc_law.nd rfl (by first | exact .inl rfl | exact .inr rfl))) (fun _ _ _ _ _ => pts_nil) (fun _ _ _ _ _ => (pe_call G_is_name (hr.mono (by decide)) (by rfl) g_is_name K_is_name B_is_name .nil pass0 (pa_cons (pv 7) pa_nil)))) pa_nil))) (pss_one (ps_ret pe_bl)) pss_nil)
  (pss_cons (ps_set (i := 10) sc_law.nd rfl (by first | exact .inl rfl | exact .inr rfl) (pe_lst (pa_cons (pe_tup (pa_cons pe_str (pa_cons pe_bl pa_nil))) (pa_cons (pe_tup (pa_cons pe_str (pa_cons pe_bl pa_nil))) (pa_cons (pe_tup (pa_cons pe_str (pa_cons pe_bl pa_nil))) (pa_cons (pe_tup (pa_cons pe_str (pa_cons pe_bl pa_nil))) (pa_cons (pe_tup (pa_cons (pe_op op_mulU pe_str pe_int) (pa_cons pe_bl pa_nil))) (pa_cons (pe_tup (pa_cons (pe_op op_mulU pe_str pe_int) (pa_cons pe_bl pa_nil))) (pa_cons (pe_tup (pa_cons pe_str (pa_cons pe_bl pa_nil))) (pa_cons (pe_tup (pa_cons pe_str (pa_cons pe_bl pa_nil))) pa_nil))))))))))
  (pss_cons (ps_if (pt_not (pt_val (pe_callB (xall K) (by rfl) f_all (by decide +kernel) (pa_cons (pe_lc (own := [("text", 14), ("told", 15)]) (g := gTup K 2 (gCons (gName 14) (gCons (gName 15) (gNil)))) (tt := tYes) rfl sc_law.nd (pi_list (pv 10)) (blkOk_by (N := N_law) (sc := defScope s_law) (by decide +kernel)) (fun _ _ _ _ _ => (pg_tup rfl (pgs_cons (pg_name (i := 14) sc_law.nd rfl (by first | exact .inl rfl | exact .inr rfl)) (pgs_cons (pg_name (i := 15) sc_law.nd rfl (by first | exact .inl rfl | exact .inr rfl)) pgs_nil)))) (fun _ _ _ _ _ => pts_nil) (fun _ _ _ _ _ => (pe_cmpR (xop_eq K hr) (pe_call G_is_number (hr.mono (by decide)) (by rfl) g_is_number K_is_number B_is_number .nil pass0 (pa_cons (pv 14) pa_nil)) (pv 15) (nomark _)))) pa_nil)))) (pss_one (ps_ret pe_bl)) pss_nil)
  (pss_cons (ps_set (i := 6) sc_law.nd rfl (by first | exact .inl rfl | exact .inr rfl) (pe_call G__law_draw (hr.mono (by decide)) (by rfl) g__law_draw K__law_draw B__law_draw .nil pass0 (pa_cons (pv 0) (pa_cons pe_int (pa_cons (pe_lst (pa_cons pe_int (pa_cons pe_int pa_nil))) pa_nil)))))
  (pss_cons (ps_set (i := 11) sc_law.nd rfl (by first | exact .inl rfl | exact .inr rfl) (pe_ix (xix K) (pe_lst (pa_cons pe_str (pa_cons pe_str (pa_cons pe_str (pa_cons pe_str (pa_cons pe_str (pa_cons pe_str (pa_cons pe_str (pa_cons (pe_op op_mulU pe_str pe_int) pa_nil))))))))) (pe_ix (xix K) (pv 6) pe_int (fun _ _ => rfl)) (fun _ _ => rfl)))
  (pss_cons (ps_if (pt_cmpR op_notN1 (pe_call G_words_of (hr.mono (by decide)) (by rfl) g_words_of K_words_of B_words_of .nil pass0 (pa_cons (pe_op (xop_add K) (pe_op (xop_add K) (pv 3) pe_str) (pv 11)) pa_nil)) pe_non (nomark _)) (pss_one (ps_ret pe_bl)) pss_nil)
  (pss_cons (ps_set (i := 12) sc_law.nd rfl (by first | exact .inl rfl | exact .inr rfl) (pe_lst (pa_cons (pe_tup (pa_cons (pe_op op_rep (pe_lst (pa_cons pe_str pa_nil)) pe_int) (pa_cons pe_bl pa_nil))) (pa_cons (pe_tup (pa_cons (pe_op op_rep (pe_lst (pa_cons pe_str pa_nil)) pe_int) (pa_cons pe_bl pa_nil))) (pa_cons (pe_tup (pa_cons (pe_op (xop_add K) (pe_op op_rep (pe_lst (pa_cons pe_str pa_nil)) pe_int) (pe_op op_rep (pe_lst (pa_cons pe_str pa_nil)) pe_int)) (pa_cons pe_bl pa_nil))) (pa_cons (pe_tup (pa_cons (pe_op op_rep (pe_lst (pa_cons pe_str pa_nil)) pe_int) (pa_cons pe_bl pa_nil))) pa_nil))))))
  (pss_cons (ps_set (i := 12) sc_law.nd rfl (by first | exact .inl rfl | exact .inr rfl) (pe_op (xop_add K) (pv 12) (pe_lst (pa_cons (pe_tup (pa_cons (pe_op (xop_add K) (pe_op (xop_add K) (pe_op op_rep (pe_lst (pa_cons pe_str pa_nil)) pe_int) (pe_lst (pa_cons pe_str pa_nil))) (pe_op op_rep (pe_lst (pa_cons pe_str pa_nil)) pe_int)) (pa_cons pe_bl pa_nil))) pa_nil))))
  (pss_cons (ps_set (i := 12) sc_law.nd rfl (by first | exact .inl rfl | exact .inr rfl) (pe_op (xop_add K) (pv 12) (pe_lst (pa_cons (pe_tup (pa_cons (pe_op op_rep (pe_lst (pa_cons pe_str pa_nil)) pe_int) (pa_cons pe_bl pa_nil))) (pa_cons (pe_tup (pa_cons (pe_op op_rep (pe_lst (pa_cons pe_str pa_nil)) pe_int) (pa_cons pe_bl pa_nil))) (pa_cons (pe_tup (pa_cons (pe_op op_rep (pe_lst (pa_cons pe_str (pa_cons pe_str pa_nil))) pe_int) (pa_cons pe_bl pa_nil))) (pa_cons (pe_tup (pa_cons (pe_op op_rep (pe_lst (pa_cons pe_str pa_nil)) pe_int) (pa_cons pe_bl pa_nil))) pa_nil)))))))
  (pss_cons (ps_set (i := 12) sc_law.nd rfl (by first | exact .inl rfl | exact .inr rfl) (pe_op (xop_add K) (pv 12) (pe_lst (pa_cons (pe_tup (pa_cons (pe_op op_rep (pe_lst (pa_cons pe_str pa_nil)) pe_int) (pa_cons pe_bl pa_nil))) (pa_cons (pe_tup (pa_cons (pe_op op_rep (pe_lst (pa_cons pe_str pa_nil)) pe_int) (pa_cons pe_bl pa_nil))) (pa_cons (pe_tup (pa_cons (pe_op op_rep (pe_lst (pa_cons pe_str pa_nil)) pe_int) (pa_cons pe_bl pa_nil))) (pa_cons (pe_tup (pa_cons (pe_op op_rep (pe_lst (pa_cons pe_str (pa_cons pe_str pa_nil))) pe_int) (pa_cons pe_bl pa_nil))) (pa_cons (pe_tup (pa_cons (pe_op op_rep (pe_lst (pa_cons pe_str (pa_cons pe_str (pa_cons pe_str pa_nil)))) pe_int) (pa_cons pe_bl pa_nil))) pa_nil))))))))
  (pss_cons (ps_if (pt_not (pt_val (pe_callB (xall K) (by rfl) f_all (by decide +kernel) (pa_cons (pe_lc (own := [("words", 16), ("told", 15)]) (g := gTup K 2 (gCons (gName 16) (gCons (gName 15) (gNil)))) (tt := tYes) rfl sc_law.nd (pi_list (pv 12)) (blkOk_by (N := N_law) (sc := defScope s_law) (by decide +kernel)) (fun _ _ _ _ _ => (pg_tup rfl (pgs_cons (pg_name (i := 16) sc_law.nd rfl (by first | exact .inl rfl | exact .inr rfl)) (pgs_cons (pg_name (i := 15) sc_law.nd rfl (by first | exact .inl rfl | exact .inr rfl)) pgs_nil)))) (fun _ _ _ _ _ => pts_nil) (fun _ _ _ _ _ => (pe_cmpR (xop_eq K hr) (pe_call G_can_be_read (hr.mono (by decide)) (by rfl) g_can_be_read K_can_be_read B_can_be_read .nil pass0 (pa_cons (pv 16) pa_nil)) (pv 15) (nomark _)))) pa_nil)))) (pss_one (ps_ret pe_bl)) pss_nil)
  (pss_cons (ps_setLc (i := 13) (own := [("at", 5)]) (g := gName 5) (tt := tYes) rfl sc_law.nd rfl rfl (sw_true rfl rfl rfl (by decide +kernel)) (pi_range1 (by rfl) f_range (pa_cons pe_int pa_nil)) (blkOk_by (N := N_law) (sc := defScope s_law) (by decide +kernel)) (fun _ _ _ _ _ => (pg_name (i := 5) sc_law.nd rfl (by first | exact .inl rfl | exact .inr rfl))) (fun _ _ _ _ _ => pts_nil) (fun _ _ _ _ _ => (pe_ix (xix K) (pe_lst (pa_cons pe_str (pa_cons pe_str (pa_cons pe_str (pa_cons pe_str pa_nil))))) (pe_op op_mod (pe_op (xop_add K) (pv 5) (pe_ix (xix K) (pv 6) pe_int (fun _ _ => rfl))) pe_int) (fun _ _ => rfl))))
  (pss_one (ps_ret (pe_and (pe_cmpR (xop_eq K hr) (pe_call G_lines_of (hr.mono (by decide)) (by rfl) g_lines_of K_lines_of B_lines_of .nil pass0 (pa_cons (pe_join pe_str (pe_lc (own := [("row", 17)]) (g := gName 17) (tt := tYes) rfl sc_law.nd (pi_list (pv 13)) (blkOk_by (N := N_law) (sc := defScope s_law) (by decide +kernel)) (fun _ _ _ _ _ => (pg_name (i := 17) sc_law.nd rfl (by first | exact .inl rfl | exact .inr rfl))) (fun _ _ _ _ _ => pts_nil) (fun _ _ _ _ _ => (pe_op (xop_add K) (pv 17) pe_str)))) pa_nil)) (pv 13) (nomark _)) (pe_and (pe_cmpR (xop_eq K hr) (pe_call G_lines_of (hr.mono (by decide)) (by rfl) g_lines_of K_lines_of B_lines_of .nil pass0 (pa_cons pe_str pa_nil)) (pe_lst (pa_cons pe_str (pa_cons pe_str pa_nil))) (nomark _)) (pe_one (pe_cmpR (xop_eq K hr) (pe_call G_lines_of (hr.mono (by decide)) (by rfl) g_lines_of K_lines_of B_lines_of .nil pass0 (pa_cons pe_str pa_nil)) (pe_lst pa_nil) (nomark _))))))))))))))))))))))))))))), ?_⟩
  unfold b_law
  exact (es_seq (es_set (ed_lst (eq_cons (ed_c (rp_lit (by rfl))) (eq_cons (ed_c (rp_lit (by rfl))) (eq_cons (ed_c (rp_lit (by rfl))) (eq_cons (ed_c (rp_lit (by rfl))) (eq_cons (ed_c (rp_lit (by rfl))) (eq_cons (ed_c (rp_lit (by rfl))) (eq_cons (ed_c (rp_lit (by rfl))) (eq_cons (ed_c (rp_lit (by rfl))) (eq_cons (ed_c (rp_lit (by rfl))) (eq_cons (ed_c (rp_lit (by rfl))) eq_nil))))))))))))
  (es_seq (es_set (ed_lst (eq_cons (ed_c (rp_lit (by rfl))) (eq_cons (ed_c (rp_lit (by rfl))) (eq_cons (ed_c (rp_lit (by rfl))) (eq_cons (ed_c (rp_lit (by rfl))) (eq_cons (ed_c (rp_lit (by rfl))) (eq_cons (ed_c (rp_lit (by rfl))) (eq_cons (ed_c (rp_lit (by rfl))) (eq_cons (ed_c (rp_lit (by rfl))) (eq_cons (ed_c (rp_lit (by rfl))) (eq_cons (ed_c (rp_lit (by rfl))) (eq_cons (ed_c (rp_lit (by rfl))) (eq_cons (ed_c (rp_lit (by rfl))) (eq_cons (ed_c (rp_lit (by rfl))) (eq_cons (ed_c (rp_lit (by rfl))) (eq_cons (ed_c (rp_lit (by rfl))) (eq_cons (ed_c (rp_lit (by rfl))) (eq_cons (ed_c (rp_lit (by rfl))) (eq_cons (ed_c (rp_lit (by rfl))) (eq_cons (ed_c (rp_lit (by rfl))) eq_nil)))))))))))))))))))))
  (es_seq (es_par (ea_cons (ed_c (rp_lit (by rfl))) (ea_cons (ed_lst eq_nil) ea_nil)))
  (es_seq (es_for (ei_r1 (eq_cons (ed_c fun _ => .int _) eq_nil)) eg_name (es_seq (es_set (ed_call ET (eq_cons (ed_var 0) (eq_cons (ed_var 5) (eq_cons (ed_lst (eq_cons (ed_c fun _ => .int _) (eq_cons (ed_c fun _ => .int _) (eq_cons (ed_c fun _ => .int _) (eq_cons (ed_c fun _ => .int _) eq_nil))))) eq_nil)))))
  (es_seq (es_set (ed_if (eb_test (ed_op (ed_ixV (ed_c fun _ => .int _)) (ed_c fun _ => .int _) rd_eq)) (ed_ixV (ed_ixV (ed_c fun _ => .int _))) (ed_ixV (ed_ixV (ed_c fun _ => .int _)))))
  (es_seq (es_if (eb_and (eb_test (ed_op (ed_var 5) (ed_c fun _ => .int _) rd_gt)) (eb_and (eb_test (ed_op (ed_ixV (ed_c fun _ => .int _)) (ed_c fun _ => .int _) rd_eq)) (eb_test (ed_op (ed_opV (ed_ixV (ed_un (ed_c fun _ => .int _) rd_neg)) rd_in) (ed_opV (ed_var 7) rd_in) rd_ne)))) (es_set (ed_op (ed_var 3) (ed_var 7) rd_addU)) (es_set (ed_op (ed_op (ed_var 3) (ed_op (ed_c (rp_lit (by rfl))) (ed_op (ed_c fun _ => .int _) (ed_ixV (ed_c fun _ => .int _)) rd_addU) rd_mulU) rd_addU) (ed_var 7) rd_addU)))
  (es_app (ed_var 7))))))
  (es_seq (es_if (eb_or (eb_test (ed_opV (ed_call ET (eq_cons (ed_var 3) eq_nil)) rd_ne)) (eb_or (eb_test (ed_op (ed_call ET (eq_cons (ed_c (rp_lit (by rfl))) eq_nil)) (ed_lst eq_nil) rd_ne)) (eb_test (ed_op (ed_call ET (eq_cons (ed_c (rp_lit (by rfl))) eq_nil)) (ed_lst eq_nil) rd_ne)))) (es_ret (ed_c fun _ => .bl _)) es_nx)
  (es_seq (es_set (ed_lst (eq_cons (ed_tup (eq_cons (ed_c (rp_lit (by rfl))) (eq_cons (ed_c fun _ => .bl _) eq_nil))) (eq_cons (ed_tup (eq_cons (ed_c (rp_lit (by rfl))) (eq_cons (ed_c fun _ => .bl _) eq_nil))) (eq_cons (ed_tup (eq_cons (ed_c (rp_lit (by rfl))) (eq_cons (ed_c fun _ => .bl _) eq_nil))) (eq_cons (ed_tup (eq_cons (ed_c (rp_lit (by rfl))) (eq_cons (ed_c fun _ => .bl _) eq_nil))) (eq_cons (ed_tup (eq_cons (ed_c (rp_lit (by rfl))) (eq_cons (ed_c fun _ => .bl _) eq_nil))) (eq_cons (ed_tup (eq_cons (ed_c (rp_lit (by rfl))) (eq_cons (ed_c fun _ => .bl _) eq_nil))) (eq_cons (ed_tup (eq_cons (ed_c (rp_lit (by rfl))) (eq_cons (ed_c fun _ => .bl _) eq_nil))) (eq_cons (ed_tup (eq_cons (ed_c (rp_lit (by rfl))) (eq_cons (ed_c fun _ => .bl _) eq_nil))) (eq_cons (ed_tup (eq_cons (ed_c (rp_lit (by rfl))) (eq_cons (ed_c fun _ => .bl _) eq_nil))) (eq_cons (ed_tup (eq_cons (ed_c (rp_lit (by rfl))) (eq_cons (ed_c fun _ => .bl _) eq_nil))) eq_nil))))))))))))
  (es_seq (es_if (eb_not (eb_val (ed_cb (eq_cons (ed_lc (ei_list (ed_var 8)) (eg_tup (egs_cons eg_name (egs_cons eg_name egs_nil))) eb_yes (ed_opV (ed_call ET (eq_cons (ed_var 14) eq_nil)) rd_eq) (by decide)) eq_nil) rc_all))) (es_ret (ed_c fun _ => .bl _)) es_nx)
  (es_seq (es_set (ed_c (rp_lit (by rfl))))
  (es_seq (es_set (ed_op (ed_var 9) (ed_c (rp_lit (by rfl))) rd_addU))
  (es_seq (es_set (ed_op (ed_var 9) (ed_c (rp_lit (by rfl))) rd_addU))
  (es_seq (es_if (eb_val (ed_cb (eq_cons (ed_lc (ei_list (ed_m1 (ed_var 9) (ed_c (rp_lit (by rfl))) rm_split gSplit_str)) eg_name eb_yes (ed_call ET (eq_cons (ed_var 7) eq_nil)) (by decide)) eq_nil) rc_any)) (es_ret (ed_c fun _ => .bl _)) es_nx)
  (es_seq (es_set (ed_lst (eq_cons (ed_tup (eq_cons (ed_c (rp_lit (by rfl))) (eq_cons (ed_c fun _ => .bl _) eq_nil))) (eq_cons (ed_tup (eq_cons (ed_c (rp_lit (by rfl))) (eq_cons (ed_c fun _ => .bl _) eq_nil))) (eq_cons (ed_tup (eq_cons (ed_c (rp_lit (by rfl))) (eq_cons (ed_c fun _ => .bl _) eq_nil))) (eq_cons (ed_tup (eq_cons (ed_c (rp_lit (by rfl))) (eq_cons (ed_c fun _ => .bl _) eq_nil))) (eq_cons (ed_tup (eq_cons (ed_op (ed_c (rp_lit (by rfl))) (ed_c fun _ => .int _) rd_mulU) (eq_cons (ed_c fun _ => .bl _) eq_nil))) (eq_cons (ed_tup (eq_cons (ed_op (ed_c (rp_lit (by rfl))) (ed_c fun _ => .int _) rd_mulU) (eq_cons (ed_c fun _ => .bl _) eq_nil))) (eq_cons (ed_tup (eq_cons (ed_c (rp_lit (by rfl))) (eq_cons (ed_c fun _ => .bl _) eq_nil))) (eq_cons (ed_tup (eq_cons (ed_c (rp_lit (by rfl))) (eq_cons (ed_c fun _ => .bl _) eq_nil))) eq_nil))))))))))
  (es_seq (es_if (eb_not (eb_val (ed_cb (eq_cons (ed_lc (ei_list (ed_var 10)) (eg_tup (egs_cons eg_name (egs_cons eg_name egs_nil))) eb_yes (ed_opV (ed_call ET (eq_cons (ed_var 14) eq_nil)) rd_eq) (by decide)) eq_nil) rc_all))) (es_ret (ed_c fun _ => .bl _)) es_nx)
  (es_seq (es_set (ed_call ET (eq_cons (ed_var 0) (eq_cons (ed_c fun _ => .int _) (eq_cons (ed_lst (eq_cons (ed_c fun _ => .int _) (eq_cons (ed_c fun _ => .int _) eq_nil))) eq_nil)))))
  (es_seq (es_set (ed_op (ed_lst (eq_cons (ed_c (rp_lit (by rfl))) (eq_cons (ed_c (rp_lit (by rfl))) (eq_cons (ed_c (rp_lit (by rfl))) (eq_cons (ed_c (rp_lit (by rfl))) (eq_cons (ed_c (rp_lit (by rfl))) (eq_cons (ed_c (rp_lit (by rfl))) (eq_cons (ed_c (rp_lit (by rfl))) (eq_cons (ed_op (ed_c (rp_lit (by rfl))) (ed_c fun _ => .int _) rd_mulU) eq_nil))))))))) (ed_ixV (ed_c fun _ => .int _)) rd_ix))
  (es_seq (es_if (eb_test (ed_op (ed_call ET (eq_cons (ed_op (ed_op (ed_var 3) (ed_c (rp_lit (by rfl))) rd_addU) (ed_var 11) rd_addU) eq_nil)) (ed_c fun _ => .non) rd_isn)) (es_ret (ed_c fun _ => .bl _)) es_nx)
  (es_seq (es_set (ed_lst (eq_cons (ed_tup (eq_cons (ed_rep (ed_lst (eq_cons (ed_c (rp_lit (by rfl))) eq_nil)) (ed_c fun _ => .int _)) (eq_cons (ed_c fun _ => .bl _) eq_nil))) (eq_cons (ed_tup (eq_cons (ed_rep (ed_lst (eq_cons (ed_c (rp_lit (by rfl))) eq_nil)) (ed_c fun _ => .int _)) (eq_cons (ed_c fun _ => .bl _) eq_nil))) (eq_cons (ed_tup (eq_cons (ed_op (ed_rep (ed_lst (eq_cons (ed_c (rp_lit (by rfl))) eq_nil)) (ed_c fun _ => .int _)) (ed_rep (ed_lst (eq_cons (ed_c (rp_lit (by rfl))) eq_nil)) (ed_c fun _ => .int _)) rd_addU) (eq_cons (ed_c fun _ => .bl _) eq_nil))) (eq_cons (ed_tup (eq_cons (ed_rep (ed_lst (eq_cons (ed_c (rp_lit (by rfl))) eq_nil)) (ed_c fun _ => .int _)) (eq_cons (ed_c fun _ => .bl _) eq_nil))) eq_nil))))))
  (es_seq (es_set (ed_op (ed_var 12) (ed_lst (eq_cons (ed_tup (eq_cons (ed_op (ed_op (ed_rep (ed_lst (eq_cons (ed_c (rp_lit (by rfl))) eq_nil)) (ed_c fun _ => .int _)) (ed_lst (eq_cons (ed_c (rp_lit (by rfl))) eq_nil)) rd_addU) (ed_rep (ed_lst (eq_cons (ed_c (rp_lit (by rfl))) eq_nil)) (ed_c fun _ => .int _)) rd_addU) (eq_cons (ed_c fun _ => .bl _) eq_nil))) eq_nil)) rd_addU))
  (es_seq (es_set (ed_op (ed_var 12) (ed_lst (eq_cons (ed_tup (eq_cons (ed_rep (ed_lst (eq_cons (ed_c (rp_lit (by rfl))) eq_nil)) (ed_c fun _ => .int _)) (eq_cons (ed_c fun _ => .bl _) eq_nil))) (eq_cons (ed_tup (eq_cons (ed_rep (ed_lst (eq_cons (ed_c (rp_lit (by rfl))) eq_nil)) (ed_c fun _ => .int _)) (eq_cons (ed_c fun _ => .bl _) eq_nil))) (eq_cons (ed_tup (eq_cons (ed_rep (ed_lst (eq_cons (ed_c (rp_lit (by rfl))) (eq_cons (ed_c (rp_lit (by rfl))) eq_nil))) (ed_c fun _ => .int _)) (eq_cons (ed_c fun _ => .bl _) eq_nil))) (eq_cons (ed_tup (eq_cons (ed_rep (ed_lst (eq_cons (ed_c (rp_lit (by rfl))) eq_nil)) (ed_c fun _ => .int _)) (eq_cons (ed_c fun _ => .bl _) eq_nil))) eq_nil))))) rd_addU))
  (es_seq (es_set (ed_op (ed_var 12) (ed_lst (eq_cons (ed_tup (eq_cons (ed_rep (ed_lst (eq_cons (ed_c (rp_lit (by rfl))) eq_nil)) (ed_c fun _ => .int _)) (eq_cons (ed_c fun _ => .bl _) eq_nil))) (eq_cons (ed_tup (eq_cons (ed_rep (ed_lst (eq_cons (ed_c (rp_lit (by rfl))) eq_nil)) (ed_c fun _ => .int _)) (eq_cons (ed_c fun _ => .bl _) eq_nil))) (eq_cons (ed_tup (eq_cons (ed_rep (ed_lst (eq_cons (ed_c (rp_lit (by rfl))) eq_nil)) (ed_c fun _ => .int _)) (eq_cons (ed_c fun _ => .bl _) eq_nil))) (eq_cons (ed_tup (eq_cons (ed_rep (ed_lst (eq_cons (ed_c (rp_lit (by rfl))) (eq_cons (ed_c (rp_lit (by rfl))) eq_nil))) (ed_c fun _ => .int _)) (eq_cons (ed_c fun _ => .bl _) eq_nil))) (eq_cons (ed_tup (eq_cons (ed_rep (ed_lst (eq_cons (ed_c (rp_lit (by rfl))) (eq_cons (ed_c (rp_lit (by rfl))) (eq_cons (ed_c (rp_lit (by rfl))) eq_nil)))) (ed_c fun _ => .int _)) (eq_cons (ed_c fun _ => .bl _) eq_nil))) eq_nil)))))) rd_addU))
  (es_seq (es_if (eb_not (eb_val (ed_cb (eq_cons (ed_lc (ei_list (ed_var 12)) (eg_tup (egs_cons eg_name (egs_cons eg_name egs_nil))) eb_yes (ed_opV (ed_call ET (eq_cons (ed_var 16) eq_nil)) rd_eq) (by decide)) eq_nil) rc_all))) (es_ret (ed_c fun _ => .bl _)) es_nx)
  (es_seq (es_set (ed_lc (ei_r1 (eq_cons (ed_c fun _ => .int _) eq_nil)) eg_name eb_yes (ed_op (ed_lst (eq_cons (ed_c (rp_lit (by rfl))) (eq_cons (ed_c (rp_lit (by rfl))) (eq_cons (ed_c (rp_lit (by rfl))) (eq_cons (ed_c (rp_lit (by rfl))) eq_nil))))) (ed_op (ed_op (ed_var 5) (ed_ixV (ed_c fun _ => .int _)) rd_addU) (ed_c fun _ => .int _) rd_mod) rd_ix) (by decide)))
  (es_ret (ed_andV (ed_opV (ed_call ET (eq_cons (ed_m1 (ed_c (rp_lit (by rfl))) (ed_lc (ei_list (ed_var 13)) eg_name eb_yes (ed_op (ed_var 17) (ed_c (rp_lit (by rfl))) rd_addU) (by decide)) rm_join gJoin_str) eq_nil)) rd_eq) (ed_andV (ed_op (ed_call ET (eq_cons (ed_c (rp_lit (by rfl))) eq_nil)) (ed_lst (eq_cons (ed_c (rp_lit (by rfl))) (eq_cons (ed_c (rp_lit (by rfl))) eq_nil))) rd_eq) (ed_op (ed_call ET (eq_cons (ed_c (rp_lit (by rfl))) eq_nil)) (ed_lst eq_nil) rd_eq))))))))))))))))))))))))))
end K00
set_option Elab.async false
set_option linter.all false
set_option maxRecDepth 100000
namespace K00
open PySem DL
/-- what is drawn is in its range -/
def InR (ds sizes : List Int) : Prop := ds.length = sizes.length ∧ ∀ (i : Nat) (d s : Int), ds[i]? = some d → sizes[i]? = some s → 0 ≤ d ∧ d < s
def szOk (s : Int) : Bool := decide (0 < s) && decide (s < 1073741824)
theorem InR.snoc {ds sizes : List Int} {d s : Int} (h : InR ds sizes) (h0 : 0 ≤ d) (h1 : d < s) : InR (ds ++ [d]) (sizes ++ [s]) := by
  obtain ⟨hl, hr⟩ := h
  refine ⟨by simp [hl], fun i d' s' e1 e2 => ?_⟩
  by_cases hi : i < ds.length
  · rw [List.getElem?_append_left hi] at e1
    rw [List.getElem?_append_left (by omega)] at e2
    exact hr i d' s' e1 e2
  · rw [List.getElem?_append_right (by omega)] at e1
    rw [List.getElem?_append_right (by omega)] at e2
    have z : i - ds.length = 0 := by
      have := (List.getElem?_eq_some_iff.mp e1).1
      simp at this
      omega
    rw [z] at e1
    have z2 : i - sizes.length = 0 := by omega
    rw [z2] at e2
    simp at e1 e2
    omega
theorem cell_sem (ns : List Int) (k : Nat) : ∃ c, m__law_cell [.lst (ns.map .int), .int k] = some (.int c) := by
  by_cases h : k < ns.length
  · refine ⟨ns[k], ?_⟩
    simp [m__law_cell, defF, entE, runB, b__law_cell, sSeq, b__law_cell_0, sIf, fB, pur, fOp, fVar, frz, fCBV, vwE, gLen, scl, gLt, gIB, h, b__law_cell_0_0, sRet, fIxV, gIx, atN]
  · refine ⟨0, ?_⟩
    simp [m__law_cell, defF, entE, runB, b__law_cell, sSeq, b__law_cell_0, sIf, fB, pur, fOp, fVar, frz, fCBV, vwE, gLen, scl, gLt, gIB, h, b__law_cell_1, sRet, sNx, fC]
theorem draw_loop1 (x0 x1 x2 x6 x7 : Option Ow) : ∀ (sizes done : List Int) (cell : Int) (acc : List Int) (x5 : Option Ow), InR acc done → (∀ s ∈ sizes, szOk s = true) → acc.length + sizes.length < 1000 → 
    ∃ (ds : List Int) (c' : Int) (x5' : Option Ow), InR ds (done ++ sizes) ∧
      forF (gN 5) (sSeq b__law_draw_3_1_0 b__law_draw_3_1_1) (sizes.map .int) [x0, x1, x2, some (.sh (.int cell)), some (.lst (acc.map .int)), x5, x6, x7]
        = some (.nx [x0, x1, x2, some (.sh (.int c')), some (.lst (ds.map .int)), x5', x6, x7])
  | [], done, cell, acc, x5, h, _, _ => ⟨acc, cell, x5, by simpa using h, by simp [forF]⟩
  | s :: sizes, done, cell, acc, x5, h, hs, hl => by
    have h1 := hs s (by simp)
    simp only [szOk, Bool.and_eq_true, decide_eq_true_eq] at h1
    have hsn := h.snoc (Int.emod_nonneg cell (by omega : s ≠ 0)) (Int.emod_lt_of_pos cell h1.1)
    obtain ⟨ds, c', x5', r1, r2⟩ := draw_loop1 x0 x1 x2 x6 x7 sizes (done ++ [s]) (cell / s) (acc ++ [cell % s]) (some (.sh (.int s))) hsn (fun t ht => hs t (by simp [ht])) (by simp at hl ⊢; omega)
    refine ⟨ds, c', x5', by simpa using r1, ?_⟩
    rw [← r2]
    have hz : Nat.blt acc.length 16777216 = true := by
      simp [Nat.blt]
      simp at hl
      omega
    simp [forF, gN, setE, sSeq, b__law_draw_3_1_0, b__law_draw_3_1_1, sApp, pur, fOp, fVar, frz, gMod, gIC, modOk, h1, sSet, gDiv, divOk, hz]
/-- the turns from a on -/
def tn (a : Nat) : Nat → List Dt
  | 0 => []
  | n + 1 => .int (a : Nat) :: tn (a + 1) n
theorem tn_range' : ∀ (n a : Nat), tn a n = (List.range' a n).map fun i => .int (0 + (i : Nat))
  | 0, a => rfl
  | n + 1, a => by
    rw [List.range'_succ, List.map_cons, ← tn_range' n (a + 1)]
    simp [tn]
theorem rngD_tn (n : Nat) : rngD 0 n = tn 0 n := by
  unfold rngD
  rw [tn_range', List.range_eq_range']
theorem draw_loop2 (x0 x1 x3 x5 : Option Ow) (sizes : List Int) (hs : ∀ s ∈ sizes, szOk s = true) (hl : sizes.length < 1000) : ∀ (rest done acc : List Int) (mixed : Int) (x7 : Option Ow), sizes = done ++ rest → InR acc done → 
    ∃ (ds : List Int) (x6' x7' : Option Ow), InR ds sizes ∧
      forF (gN 7) (sSeq b__law_draw_5_0 (sSeq b__law_draw_5_1 b__law_draw_5_2)) (tn done.length rest.length) [x0, x1, some (.sh (.lst (sizes.map .int))), x3, some (.lst (acc.map .int)), x5, some (.sh (.int mixed)), x7]
        = some (.nx [x0, x1, some (.sh (.lst (sizes.map .int))), x3, some (.lst (ds.map .int)), x5, x6', x7'])
  | [], done, acc, mixed, x7, e, h => ⟨acc, some (.sh (.int mixed)), x7, by rw [e]; simpa using h, by simp [forF, tn]⟩
  | s :: rest, done, acc, mixed, x7, e, h => by
    have h1 := hs s (by rw [e]; simp)
    simp only [szOk, Bool.and_eq_true, decide_eq_true_eq] at h1
    have hget : sizes[done.length]? = some s := by rw [e]; simp
    generalize hm1 : (mixed * 48271 + 11 + (done.length : Int)) % 2147483647 = m1
    generalize hm2 : (m1 * 69621 + 3) % 2147483647 = m2
    have hsn := h.snoc (Int.emod_nonneg (m2 / 7) (by omega : s ≠ 0)) (Int.emod_lt_of_pos (m2 / 7) h1.1)
    obtain ⟨ds, x6', x7', r1, r2⟩ := draw_loop2 x0 x1 x3 x5 sizes hs hl rest (done ++ [s]) (acc ++ [m2 / 7 % s]) m2 (some (.sh (.int (done.length : Nat)))) (by rw [e]; simp) hsn
    refine ⟨ds, x6', x7', r1, ?_⟩
    rw [← r2]
    have hlen : done.length < sizes.length := by rw [e]; simp
    have hal : acc.length = done.length := h.1
    have hz : Nat.blt acc.length 16777216 = true := by
      simp [Nat.blt]
      omega
    have hget2 : sizes[done.length] = s := by
      have := List.getElem?_eq_some_iff.mp hget
      exact this.2
    simp [forF, tn, gN, setE, sSeq, b__law_draw_5_0, b__law_draw_5_1, b__law_draw_5_2, sApp, pur, fOp, fVar, fC, frz, gMod, gDiv, gAdd, gMul, gMulS, gIC, modOk, divOk, mulOk, ibd, h1, sSet, hz, hm1, hm2, fIxV, vwE, gIx, atN, hlen, hget2]
theorem draw_key1 (ns sizes : List Int) (k : Nat) (hs : ∀ s ∈ sizes, szOk s = true) (hl : sizes.length < 1000) (c' : Int) (hb : (1000000000000000000 : Int) ≤ c') : ∃ ds : List Int, InR ds sizes ∧ runB (sSeq b__law_draw_2 (sSeq b__law_draw_3 (sSeq b__law_draw_4 (sSeq b__law_draw_5 b__law_draw_6))))
      [some (.sh (.lst (ns.map .int))), some (.sh (.int k)), some (.sh (.lst (sizes.map .int))), some (.sh (.int c')), none, none, none, none] = some (.lst (ds.map .int)) := by
  obtain ⟨ds, c2, x5', r1, r2⟩ := draw_loop1 (some (.sh (.lst (ns.map .int)))) (some (.sh (.int k))) (some (.sh (.lst (sizes.map .int)))) none none sizes [] (c' - 1000000000000000000) [] none ⟨rfl, by simp⟩ hs (by simpa using hl)
  refine ⟨ds, by simpa using r1, ?_⟩
  simp only [List.map_nil] at r2
  simp [runB, sSeq, b__law_draw_2, sSet, fLst, qNil, setE, b__law_draw_3, sIf, fB, pur, fOp, fVar, fC, frz, gPow, gIC, powOk, gGe, gIB, hb, b__law_draw_3_0, gSub, gI, b__law_draw_3_1, sFor, iL, r2, b__law_draw_3_2, sRet]
theorem draw_key2 (ns sizes : List Int) (k : Nat) (hs : ∀ s ∈ sizes, szOk s = true) (hl : sizes.length < 1000) (c' : Int) (hb : ¬ (1000000000000000000 : Int) ≤ c') : ∃ ds : List Int, InR ds sizes ∧ runB (sSeq b__law_draw_2 (sSeq b__law_draw_3 (sSeq b__law_draw_4 (sSeq b__law_draw_5 b__law_draw_6))))
      [some (.sh (.lst (ns.map .int))), some (.sh (.int k)), some (.sh (.lst (sizes.map .int))), some (.sh (.int c')), none, none, none, none] = some (.lst (ds.map .int)) := by
  obtain ⟨ds, x6', x7', r1, r2⟩ := draw_loop2 (some (.sh (.lst (ns.map .int)))) (some (.sh (.int k))) (some (.sh (.int c'))) none sizes hs hl sizes [] [] ((c' + 1 + 31 * (k : Int)) % 2147483647) none rfl ⟨rfl, by simp⟩
  refine ⟨ds, r1, ?_⟩
  have hrg : ibd 1000000000 (sizes.length : Int) = true := ibd_nat (by omega)
  simp only [List.map_nil, List.length_nil] at r2
  have e4 : b__law_draw_4 [some (.sh (.lst (ns.map .int))), some (.sh (.int k)), some (.sh (.lst (sizes.map .int))), some (.sh (.int c')), some (.lst []), none, none, none]
      = some (.nx [some (.sh (.lst (ns.map .int))), some (.sh (.int k)), some (.sh (.lst (sizes.map .int))), some (.sh (.int c')), some (.lst []), none, some (.sh (.int ((c' + 1 + 31 * (k : Int)) % 2147483647))), none]) := by
    simp [b__law_draw_4, sSet, fOp, pur, fVar, fC, frz, gAdd, gMul, gMulS, mulOk, ibd, gIC, gMod, modOk, setE]
  have e50 : iR1 (qCons (fCBV gLen 2) qNil) [some (.sh (.lst (ns.map .int))), some (.sh (.int k)), some (.sh (.lst (sizes.map .int))), some (.sh (.int c')), some (.lst []), none, some (.sh (.int ((c' + 1 + 31 * (k : Int)) % 2147483647))), none]
      = some (tn 0 sizes.length, [some (.sh (.lst (ns.map .int))), some (.sh (.int k)), some (.sh (.lst (sizes.map .int))), some (.sh (.int c')), some (.lst []), none, some (.sh (.int ((c' + 1 + 31 * (k : Int)) % 2147483647))), none]) := by
    have eq : qCons (fCBV gLen 2) qNil [some (.sh (.lst (ns.map .int))), some (.sh (.int k)), some (.sh (.lst (sizes.map .int))), some (.sh (.int c')), some (.lst []), none, some (.sh (.int ((c' + 1 + 31 * (k : Int)) % 2147483647))), none] =
        some ([.int (sizes.length : Nat)], [some (.sh (.lst (ns.map .int))), some (.sh (.int k)), some (.sh (.lst (sizes.map .int))), some (.sh (.int c')), some (.lst []), none, some (.sh (.int ((c' + 1 + 31 * (k : Int)) % 2147483647))), none]) := by
      simp [qCons, qNil, pur, fCBV, vwE, gLen, scl, frz]
    unfold iR1
    rw [eq]
    dsimp only
    rw [hrg, if_pos rfl, Int.toNat_natCast, rngD_tn]
  have e5 : b__law_draw_5 [some (.sh (.lst (ns.map .int))), some (.sh (.int k)), some (.sh (.lst (sizes.map .int))), some (.sh (.int c')), some (.lst []), none, some (.sh (.int ((c' + 1 + 31 * (k : Int)) % 2147483647))), none]
      = some (.nx [some (.sh (.lst (ns.map .int))), some (.sh (.int k)), some (.sh (.lst (sizes.map .int))), some (.sh (.int c')), some (.lst (ds.map .int)), none, x6', x7']) := by
    have e6 : b__law_draw_5 = sFor (iR1 (qCons (fCBV gLen 2) qNil)) (gN 7) (sSeq b__law_draw_5_0 (sSeq b__law_draw_5_1 b__law_draw_5_2)) := rfl
    rw [e6, ← r2]
    unfold sFor
    simp only [e50]
  simp [runB, sSeq, b__law_draw_2, sSet, fLst, qNil, setE, b__law_draw_3, sIf, fB, pur, fOp, fVar, fC, frz, gPow, gIC, powOk, gGe, gIB, hb, sNx, e4, e5, b__law_draw_6, sRet]
theorem draw_sem (ns sizes : List Int) (k : Nat) (hs : ∀ s ∈ sizes, szOk s = true) (hl : sizes.length < 1000) : ∃ ds : List Int, InR ds sizes ∧ m__law_draw [.lst (ns.map .int), .int k, .lst (sizes.map .int)] = some (.lst (ds.map .int)) := by
  obtain ⟨c, hc⟩ := cell_sem ns k
  have key : ∀ c' : Int, ∃ ds : List Int, InR ds sizes ∧ runB (sSeq b__law_draw_2 (sSeq b__law_draw_3 (sSeq b__law_draw_4 (sSeq b__law_draw_5 b__law_draw_6))))
      [some (.sh (.lst (ns.map .int))), some (.sh (.int k)), some (.sh (.lst (sizes.map .int))), some (.sh (.int c')), none, none, none, none] = some (.lst (ds.map .int)) := fun c' => by
    by_cases hb : (1000000000000000000 : Int) ≤ c'
    · exact draw_key1 ns sizes k hs hl c' hb
    · exact draw_key2 ns sizes k hs hl c' hb
  by_cases h0 : c < 0
  · obtain ⟨ds, r1, r2⟩ := key (-c)
    refine ⟨ds, r1, ?_⟩
    rw [← r2]
    simp [m__law_draw, defF, entE, b__law_draw, runB, sSeq, b__law_draw_0, sSet, fCall, qCons, qNil, pur, fVar, frz, hc, setE, b__law_draw_1, sIf, fB, fOp, fC, gLt, gIB, h0, b__law_draw_1_0, fUn, gNeg]
  · obtain ⟨ds, r1, r2⟩ := key c
    refine ⟨ds, r1, ?_⟩
    rw [← r2]
    simp [m__law_draw, defF, entE, b__law_draw, runB, sSeq, b__law_draw_0, sSet, fCall, qCons, qNil, pur, fVar, frz, hc, setE, b__law_draw_1, sIf, fB, fOp, fC, gLt, gIB, h0, sNx]
end K00
set_option Elab.async false
set_option linter.all false
set_option maxRecDepth 100000
namespace K00
open PySem DL
def isTr : Option Dt → Bool
  | some (.bl true) => true
  | _ => false
/-- the words that may stand in a text -/
def okW (w : List Nat) : Option Bool := match inB (.str w) d_CLOSED with
  | some true => some true
  | some false => match m_is_name [.str w] with
    | some (.bl true) => some true
    | some (.bl false) => match m_is_number [.str w] with
      | some (.bl b) => some b
      | _ => none
    | _ => none
  | none => none
def mks : List (List Nat) := [[60, 45, 62], [45, 62], [60, 61], [62, 61], [46, 46], [40], [41], [123], [125], [44], [58], [61], [35], [60], [62], [43], [45], [42], [47]]
theorem mks_d : d_MARKS = .tup (mks.map .str) := rfl
def mkAt (r : List Nat) : List (List Nat) := mks.filter fun m => r.take m.length == m
def isSg (c : Nat) : Bool := z_SIGNS.contains c
def hdN : List Nat → Bool
  | [] => true
  | c :: _ => !isSg c
/-- what is read off a text -/
inductive Lx : List Nat → Option (List (List Nat)) → Prop
  | nil : Lx [] (some [])
  | sp {r o} : Lx r o → Lx (32 :: r) o
  | word {c w r o} : isSg c = true → c ≠ 32 → w.all isSg = true → hdN r = true → okW (c :: w) = some true → Lx r o → Lx ((c :: w) ++ r) (o.map ((c :: w) :: ·))
  | bad {c w r} : isSg c = true → c ≠ 32 → w.all isSg = true → hdN r = true → okW (c :: w) = some false → Lx ((c :: w) ++ r) none
  | mark {c m r o ms} : isSg c = false → c ≠ 32 → mkAt ((c :: m) ++ r) = (c :: m) :: ms → Lx r o → Lx ((c :: m) ++ r) (o.map ((c :: m) :: ·))
  | nomark {c r} : isSg c = false → c ≠ 32 → mkAt (c :: r) = [] → Lx (c :: r) none
theorem cut_at (pre w rest : List Nat) (k : Nat) (hk : k = w.length) : cutD (pre ++ (w ++ rest)) (some (pre.length : Int)) (some ((pre.length : Int) + (k : Int))) = w := by
  subst hk
  unfold cutD ixS
  have h1 : ¬ ((pre.length : Int) < 0) := by omega
  have h2 : ¬ ((pre.length : Int) + (w.length : Int) < 0) := by omega
  dsimp only
  rw [if_neg h1, if_neg h2]
  have h3 : ((pre.length : Int) + (w.length : Int)).toNat = pre.length + w.length := by omega
  rw [h3, Int.toNat_natCast, List.length_append, List.length_append, Nat.min_eq_left (by omega), Nat.min_eq_left (by omega), List.drop_left, Nat.add_sub_cancel_left, List.take_left]
theorem cut_tk (pre r : List Nat) (k : Nat) : cutD (pre ++ r) (some (pre.length : Int)) (some ((pre.length : Int) + (k : Int))) = r.take k := by
  unfold cutD ixS
  have h1 : ¬ ((pre.length : Int) < 0) := by omega
  have h2 : ¬ ((pre.length : Int) + (k : Int) < 0) := by omega
  dsimp only
  rw [if_neg h1, if_neg h2]
  have h3 : ((pre.length : Int) + (k : Int)).toNat = pre.length + k := by omega
  have h4 : min pre.length (pre ++ r).length = pre.length := Nat.min_eq_left (by simp)
  rw [h3, Int.toNat_natCast, h4, List.drop_left, List.length_append]
  by_cases h : k ≤ r.length
  · rw [show min (pre.length + k) (pre.length + r.length) = pre.length + k from Nat.min_eq_left (by omega), Nat.add_sub_cancel_left]
  · rw [show min (pre.length + k) (pre.length + r.length) = pre.length + r.length from Nat.min_eq_right (by omega), Nat.add_sub_cancel_left, List.take_of_length_le (by omega), List.take_of_length_le (by omega)]
def lxE (L : List Nat) (f : List (List Nat)) (p : Nat) (x3 x4 x5 x6 : Option Ow) : DEnv := [some (.sh (.str L)), some (.lst (f.map .str)), some (.sh (.int (p : Int))), x3, x4, x5, x6]
theorem sub_app (a b c d : List Nat) (h : a ++ b = c ++ d) (e : a.length = c.length) : a = c ∧ b = d := List.append_inj h e
theorem ixL (pre r : List Nat) (c : Nat) (hl : (pre ++ c :: r).length < 10000) : gIx (.str (pre ++ c :: r)) (.int (pre.length : Int)) = some (.sh (.str [c])) := by
  have h1 : Nat.ble (pre ++ c :: r).length 16777216 = true := Nat.ble_eq_true_of_le (by omega)
  have h2 : atN (pre ++ c :: r).length (pre.length : Int) = some pre.length := by
    unfold atN
    rw [if_pos (by omega), if_pos (by simp; omega), Int.toNat_natCast]
  simp only [gIx, h1, h2, if_true]
  rw [List.getElem?_append_right (Nat.le_refl _)]
  simp
/-- the run over the signs of a word -/
theorem scan (pre : List Nat) (f : List (List Nat)) (p : Nat) (x4 x5 x6 : Option Ow) (r : List Nat) (hr : hdN r = true) : ∀ (w pr : List Nat) (n : Nat), w.all isSg = true → w.length < n → (pr ++ (w ++ r)).length < 10000 →
    whF (fAnd (fB (fOp gLt (fVar 3) (fCBV gLen 0))) (fB (fOp gIn (fIxV 0 (fVar 3)) (fC (.str z_SIGNS))))) b_words_of_2_0e_0_1_0 n (lxE (pr ++ (w ++ r)) f p (some (.sh (.int (pr.length : Int)))) x4 x5 x6)
      = some (.nx (lxE (pr ++ (w ++ r)) f p (some (.sh (.int ((pr ++ w).length : Int)))) x4 x5 x6))
  | [], pr, n + 1, _, _, hl => by
    have hb : Nat.ble (pr ++ r).length 16777216 = true := Nat.ble_eq_true_of_le (by simp at hl ⊢; omega)
    simp only [List.nil_append, List.append_nil] at hl ⊢
    cases r with
    | nil =>
      simp only [List.append_nil] at *
      simp [whF, lxE, fAnd, fB, pur, fOp, fVar, frz, fCBV, vwE, gLen, scl, gLt, gIB, hb]
    | cons c r =>
      have ix := ixL pr r c hl
      have hc : ¬ c ∈ z_SIGNS := by
        simpa [hdN, isSg] using hr
      have hlt : (pr.length : Int) < ((pr ++ c :: r).length : Int) := by simp; omega
      simp only [whF, lxE, fAnd, fB, pur, fOp, fVar, frz, fCBV, vwE, gLen, scl, gLt, gIB, hb, fIxV, List.getElem?_cons_zero, List.getElem?_cons_succ, if_true, ix, fC, gIn, inB, hlt, decide_true]
      simp [hc]
  | c :: w, pr, n + 1, hw, hn, hl => by
    simp only [List.all_cons, Bool.and_eq_true] at hw
    have hb : Nat.ble (pr ++ (c :: w ++ r)).length 16777216 = true := Nat.ble_eq_true_of_le (by omega)
    have ix := ixL pr (w ++ r) c hl
    have hc : z_SIGNS.contains c = true := hw.1
    have hlt : (pr.length : Int) < ((pr ++ (c :: w ++ r)).length : Int) := by simp; omega
    have ih := scan pre f p x4 x5 x6 r hr w (pr ++ [c]) n hw.2 (by simp at hn; omega) (by simpa using hl)
    have e1 : pr ++ [c] ++ (w ++ r) = pr ++ (c :: w ++ r) := by simp
    have e2 : pr ++ [c] ++ w = pr ++ (c :: w) := by simp
    have e3 : ((pr ++ [c]).length : Int) = (pr.length : Int) + 1 := by simp
    rw [e1, e2, e3] at ih
    rw [← ih]
    have ix2 : gIx (Dt.str (pr ++ (c :: w ++ r))) (.int (pr.length : Int)) = some (.sh (.str [c])) := ix
    have hc2 : (fAnd (fB (fOp gLt (fVar 3) (fCBV gLen 0))) (fB (fOp gIn (fIxV 0 (fVar 3)) (fC (.str z_SIGNS))))) (lxE (pr ++ (c :: w ++ r)) f p (some (.sh (.int (pr.length : Int)))) x4 x5 x6) = some (true, lxE (pr ++ (c :: w ++ r)) f p (some (.sh (.int (pr.length : Int)))) x4 x5 x6) := by
      simp only [lxE, fAnd, fB, pur, fOp, fVar, frz, fCBV, vwE, gLen, scl, gLt, gIB, hb, fIxV, List.getElem?_cons_zero, List.getElem?_cons_succ, if_true, ix2, fC, gIn, inB, hlt, decide_true, hc]
    have hb2 : b_words_of_2_0e_0_1_0 (lxE (pr ++ (c :: w ++ r)) f p (some (.sh (.int (pr.length : Int)))) x4 x5 x6) = some (.nx (lxE (pr ++ (c :: w ++ r)) f p (some (.sh (.int ((pr.length : Int) + 1)))) x4 x5 x6)) := by
      simp [b_words_of_2_0e_0_1_0, lxE, sAug, pur, fC, frz, gI, setE]
    rw [whF, hc2]
    simp only [if_true, hb2]
  | [], _, 0, _, h, _ => absurd h (by simp)
  | _ :: _, _, 0, _, h, _ => absurd h (by simp)
/-- the marks that stand at a place -/
theorem mk_loop (L pre r : List Nat) (hL : L = pre ++ r) (hl : L.length < 10000) (f : List (List Nat)) (x3 x4 x5 : Option Ow) : ∀ (ms : List (List Nat)) (x6 : Option Ow), (∀ m ∈ ms, m.length ≤ 3 ∧ m.all (· < 1000) = true) → r.all (· < 1000) = true →
    ∃ x6', lcF (gN 6) (fB (fOpV gEq (fSl (fVar 0) (oSome (fVar 2)) (oSome (fOp gAdd (fVar 2) (fCBV gLen 6)))) 6)) (fVar 6) [6] (ms.map .str) (lxE L f pre.length x3 x4 x5 x6)
      = some ((ms.filter fun m => r.take m.length == m).map .str, lxE L f pre.length x3 x4 x5 x6')
  | [], x6, _, _ => ⟨x6, rfl⟩
  | m :: ms, x6, hm, hr => by
    have hm1 := hm m (by simp)
    have hb : Nat.ble L.length 16777216 = true := Nat.ble_eq_true_of_le (by omega)
    have hbm : Nat.ble m.length 16777216 = true := Nat.ble_eq_true_of_le (by omega)
    have hcut : cutD L (some (pre.length : Int)) (some ((pre.length : Int) + (m.length : Int))) = r.take m.length := by rw [hL]; exact cut_tk pre r m.length
    have hs1 : (Dt.str (r.take m.length)).shp = true := by
      simp only [Dt.shp, Dt.sgn, Dt.dep, Bool.and_eq_true]
      refine ⟨?_, by decide⟩
      rw [List.all_eq_true] at hr ⊢
      intro x hx
      have := hr x (List.mem_of_mem_take hx)
      simp at this ⊢
      omega
    have hs2 : (Dt.str m).shp = true := by
      simp only [Dt.shp, Dt.sgn, Dt.dep, Bool.and_eq_true]
      refine ⟨?_, by decide⟩
      have hm2 := hm1.2
      rw [List.all_eq_true] at hm2 ⊢
      intro x hx
      have := hm2 x hx
      simp at this ⊢
      omega
    obtain ⟨x6', ih⟩ := mk_loop L pre r hL hl f x3 x4 x5 ms none (fun m' h' => hm m' (by simp [h'])) hr
    refine ⟨x6', ?_⟩
    simp only [lxE] at ih
    by_cases q : (List.take m.length r == m) = true
    · simp [lcF, gN, setE, lxE, fB, fOpV, fSl, pur, fVar, frz, oSome, fOp, fCBV, vwE, gLen, scl, gAdd, gSl, hb, hbm, hcut, gEq, hs1, hs2, eqD, q, wipeE, ih, List.filter_cons]
    · simp only [Bool.not_eq_true] at q
      simp [lcF, gN, setE, lxE, fB, fOpV, fSl, pur, fVar, frz, oSome, fOp, fCBV, vwE, gLen, scl, gAdd, gSl, hb, hbm, hcut, gEq, hs1, hs2, eqD, q, wipeE, ih, List.filter_cons]
end K00
set_option Elab.async false
set_option linter.all false
set_option maxRecDepth 100000
namespace K00
open PySem DL
theorem shp1 {c : Nat} (h : c < 1000) : (Dt.str [c]).shp = true := by
  simp only [Dt.shp, Dt.sgn, Dt.dep, Bool.and_eq_true]
  refine ⟨?_, by decide⟩
  simp
  omega
theorem body_sp (L : List Nat) (f : List (List Nat)) (p : Nat) (x3 x4 x5 x6 : Option Ow) (hix : gIx (.str L) (.int (p : Int)) = some (.sh (.str [32]))) :
    b_words_of_2_0 (lxE L f p x3 x4 x5 x6) = some (.nx (lxE L f (p + 1) x3 x4 x5 x6)) := by
  simp [b_words_of_2_0, b_words_of_2_0_0, lxE, sIf, fB, fOp, fIxV, pur, fVar, frz, vwE, hix, fC, gEq, shp1, eqD, sAug, gI, setE]
theorem cond_ok {w : List Nat} {b : Bool} (h : okW w = some b) (L : List Nat) (f : List (List Nat)) (p : Nat) (x3 x5 x6 : Option Ow) :
    (fAnd (fB (fOp gNi (fVar 4) (fC d_CLOSED))) (fAnd (tNot' (fB (fCall m_is_name (qCons (fVar 4) qNil)))) (tNot' (fB (fCall m_is_number (qCons (fVar 4) qNil)))))) (lxE L f p x3 (some (.sh (.str w))) x5 x6) = some (!b, lxE L f p x3 (some (.sh (.str w))) x5 x6) := by
  unfold okW at h
  generalize hD : d_CLOSED = D at h ⊢
  split at h
  · rename_i q
    simp only [Option.some.injEq] at h
    subst h
    simp [fAnd, fB, fOp, pur, fVar, frz, lxE, fC, gNi, q]
  · rename_i q
    split at h
    · rename_i q2
      simp only [Option.some.injEq] at h
      subst h
      simp [fAnd, fB, fOp, pur, fVar, frz, lxE, fC, gNi, q, tNot', fCall, qCons, qNil, q2]
    · rename_i q2
      split at h
      · rename_i q3
        simp only [Option.some.injEq] at h
        subst h
        simp [fAnd, fB, fOp, pur, fVar, frz, lxE, fC, gNi, q, tNot', fCall, qCons, qNil, q2, q3]
      · cases h
    · cases h
  · cases h
theorem body_word {L : List Nat} {f : List (List Nat)} {p q c : Nat} {w : List Nat} {b : Bool} {x3 x4 x5 x6 : Option Ow} (hix : gIx (.str L) (.int (p : Int)) = some (.sh (.str [c]))) (hc : c < 1000) (h32 : c ≠ 32) (hs : isSg c = true)
    (hscan : b_words_of_2_0e_0_1 (lxE L f p (some (.sh (.int (p : Int)))) x4 x5 x6) = some (.nx (lxE L f p (some (.sh (.int (q : Int)))) x4 x5 x6)))
    (hcut : cutD L (some (p : Int)) (some (q : Int)) = w) (hL : L.length < 10000) (hf : f.length < 20000) (hw : okW w = some b) :
    b_words_of_2_0 (lxE L f p x3 x4 x5 x6) = if b then some (.nx (lxE L (f ++ [w]) q (some (.sh (.int (q : Int)))) (some (.sh (.str w))) x5 x6)) else some (.rt .non (lxE L f p (some (.sh (.int (q : Int)))) (some (.sh (.str w))) x5 x6)) := by
  have hb : Nat.ble L.length 16777216 = true := Nat.ble_eq_true_of_le (by omega)
  have hbf : Nat.blt f.length 16777216 = true := Nat.ble_eq_true_of_le (by omega)
  have hs2 : z_SIGNS.contains c = true := hs
  have e1 : fB (fOp gEq (fIxV 0 (fVar 2)) (fC (.str [32]))) (lxE L f p x3 x4 x5 x6) = some (false, lxE L f p x3 x4 x5 x6) := by
    simp [lxE, fB, fOp, fIxV, pur, fVar, frz, vwE, hix, fC, gEq, shp1 hc, shp1 (show 32 < 1000 by decide), eqD, h32]
  have e2 : fB (fOp gIn (fIxV 0 (fVar 2)) (fC (.str z_SIGNS))) (lxE L f p x3 x4 x5 x6) = some (true, lxE L f p x3 x4 x5 x6) := by
    simp only [lxE, fB, fOp, fIxV, pur, fVar, frz, vwE, hix, fC, gIn, inB, hs2, List.getElem?_cons_zero, List.getElem?_cons_succ]
  have e3 : b_words_of_2_0e_0_0 (lxE L f p x3 x4 x5 x6) = some (.nx (lxE L f p (some (.sh (.int (p : Int)))) x4 x5 x6)) := by
    simp [b_words_of_2_0e_0_0, lxE, sSet, fVar, setE]
  have e4 : b_words_of_2_0e_0_2 (lxE L f p (some (.sh (.int (q : Int)))) x4 x5 x6) = some (.nx (lxE L f p (some (.sh (.int (q : Int)))) (some (.sh (.str w))) x5 x6)) := by
    simp [b_words_of_2_0e_0_2, lxE, sSet, fSl, pur, fVar, frz, oSome, gSl, hb, hcut, setE]
  have e5 := cond_ok hw L f p (some (.sh (.int (q : Int)))) x5 x6
  unfold b_words_of_2_0 sIf
  simp only [e1]
  unfold b_words_of_2_0e_0 sIf
  simp only [e2, Bool.false_eq_true, if_false, if_true]
  unfold sSeq
  simp only [e3, hscan, e4]
  unfold b_words_of_2_0e_0_3 sIf
  simp only [e5]
  cases b with
  | true => simp [sNx, b_words_of_2_0e_0_4, b_words_of_2_0e_0_5, lxE, sApp, pur, fVar, frz, hbf, sSet, setE]
  | false => simp [b_words_of_2_0e_0_3_0, lxE, sRet, pur, fC, frz]
theorem mks_sm : ∀ m ∈ mks, m.length ≤ 3 ∧ m.all (· < 1000) = true := by decide
theorem body_mk {pre r L : List Nat} {f : List (List Nat)} {c : Nat} {x3 x4 x5 : Option Ow} (hL : L = pre ++ r) (hix : gIx (.str L) (.int (pre.length : Int)) = some (.sh (.str [c]))) (hc : c < 1000) (h32 : c ≠ 32) (hs : isSg c = false)
    (hl : L.length < 10000) (hf : f.length < 20000) (hr : r.all (· < 1000) = true) :
    match mkAt r with
    | [] => ∃ e, b_words_of_2_0 (lxE L f pre.length x3 x4 x5 none) = some (.rt .non e)
    | m :: _ => ∃ x5', b_words_of_2_0 (lxE L f pre.length x3 x4 x5 none) = some (.nx (lxE L (f ++ [m]) (pre.length + m.length) x3 x4 x5' none)) := by
  have hb : Nat.ble L.length 16777216 = true := Nat.ble_eq_true_of_le (by omega)
  have hbf : Nat.blt f.length 16777216 = true := Nat.ble_eq_true_of_le (by omega)
  have hs2 : z_SIGNS.contains c = false := hs
  have e1 : fB (fOp gEq (fIxV 0 (fVar 2)) (fC (.str [32]))) (lxE L f pre.length x3 x4 x5 none) = some (false, lxE L f pre.length x3 x4 x5 none) := by
    simp [lxE, fB, fOp, fIxV, pur, fVar, frz, vwE, hix, fC, gEq, shp1 hc, shp1 (show 32 < 1000 by decide), eqD, h32]
  have e2 : fB (fOp gIn (fIxV 0 (fVar 2)) (fC (.str z_SIGNS))) (lxE L f pre.length x3 x4 x5 none) = some (false, lxE L f pre.length x3 x4 x5 none) := by
    simp only [lxE, fB, fOp, fIxV, pur, fVar, frz, vwE, hix, fC, gIn, inB, hs2, List.getElem?_cons_zero, List.getElem?_cons_succ]
  obtain ⟨y6, hmk⟩ := mk_loop L pre r hL hl f x3 x4 x5 mks none mks_sm hr
  have e3 : b_words_of_2_0e_0e_0 (lxE L f pre.length x3 x4 x5 none) = some (.nx (lxE L f pre.length x3 x4 (some (.lst ((mkAt r).map .str))) none)) := by
    have hz : Nat.ble (mks.map Dt.str).length 16777216 = true := by decide
    have hi : iT (fC d_MARKS) (lxE L f pre.length x3 x4 x5 none) = some (mks.map .str, lxE L f pre.length x3 x4 x5 none) := by
      rw [mks_d]
      rfl
    have hw : wipeE (lxE L f pre.length x3 x4 x5 none) [6] = lxE L f pre.length x3 x4 x5 none := rfl
    unfold b_words_of_2_0e_0e_0 sSet fLc
    simp only [hi, hz, if_true, hw, hmk]
    simp [rstE, lxE, setE, mkAt]
  unfold b_words_of_2_0 sIf
  simp only [e1]
  unfold b_words_of_2_0e_0 sIf
  simp only [e2, Bool.false_eq_true, if_false]
  unfold sSeq
  simp only [e3]
  cases hm : mkAt r with
  | nil =>
    refine ⟨lxE L f pre.length x3 x4 (some (.lst [])) none, ?_⟩
    simp [b_words_of_2_0e_0e_1, sIf, fB, fOp, lxE, fCBV, vwE, frz, pur, gLen, scl, fC, gEq, Dt.shp, Dt.sgn, Dt.dep, eqD, b_words_of_2_0e_0e_1_0, sRet]
  | cons m ms =>
    refine ⟨some (.lst ((m :: ms).map .str)), ?_⟩
    have hmm : m ∈ mks := by
      have : m ∈ mkAt r := by rw [hm]; simp
      exact (List.mem_filter.mp this).1
    have hbm : Nat.ble m.length 16777216 = true := Nat.ble_eq_true_of_le (by have := (mks_sm m hmm).1; omega)
    have hne : ((ms.length : Int) + 1 == 0) = false := by
      rw [beq_eq_false_iff_ne]
      omega
    simp [b_words_of_2_0e_0e_1, sIf, fB, fOp, lxE, fCBV, vwE, frz, pur, gLen, scl, fC, gEq, Dt.shp, Dt.sgn, Dt.dep, eqD, sNx, b_words_of_2_0e_0e_2, sApp, fIxV, gIx, atN, hbf, b_words_of_2_0e_0e_3, sAug, fCB, qCons, qNil, hbm, gI, setE, hne]
/-- what the run over a text ends in -/
def RunTo (res : Option Out) (L : List Nat) (f : List (List Nat)) : Option (List (List Nat)) → Prop
  | some ws => ∃ x3 x4 x5, res = some (.nx (lxE L (f ++ ws) L.length x3 x4 x5 none))
  | none => ∃ e, res = some (.rt .non e)
theorem lx_run {r : List Nat} {o : Option (List (List Nat))} (h : Lx r o) : ∀ (pre : List Nat) (f : List (List Nat)) (n : Nat) (x3 x4 x5 : Option Ow), r.all (· < 1000) = true → r.length < n → (pre ++ r).length < 10000 → f.length + r.length < 20000 →
    RunTo (whF (fB (fOp gLt (fVar 2) (fCBV gLen 0))) b_words_of_2_0 n (lxE (pre ++ r) f pre.length x3 x4 x5 none)) (pre ++ r) f o := by
  have cnd : ∀ (L : List Nat) (f : List (List Nat)) (p : Nat) (x3 x4 x5 : Option Ow), L.length < 10000 → fB (fOp gLt (fVar 2) (fCBV gLen 0)) (lxE L f p x3 x4 x5 none) = some (decide (p < L.length), lxE L f p x3 x4 x5 none) := fun L f p x3 x4 x5 hl => by
    have hb : Nat.ble L.length 16777216 = true := Nat.ble_eq_true_of_le (by omega)
    simp [lxE, fB, fOp, pur, fVar, frz, fCBV, vwE, gLen, scl, hb, gLt, gIB]
  induction h with
  | nil =>
    intro pre f n x3 x4 x5 hr hn hl hf
    cases n with
    | zero => omega
    | succ n =>
      refine ⟨x3, x4, x5, ?_⟩
      rw [whF, cnd _ _ _ _ _ _ hl]
      simp
  | sp hx ih =>
    rename_i r o
    intro pre f n x3 x4 x5 hr hn hl hf
    cases n with
    | zero => omega
    | succ n =>
      rw [whF, cnd _ _ _ _ _ _ hl, decide_eq_true (by simp)]
      simp only [if_true]
      rw [body_sp _ _ _ _ _ _ _ (ixL pre r 32 hl)]
      simp only [List.all_cons, Bool.and_eq_true] at hr
      have := ih (pre ++ [32]) f n x3 x4 x5 hr.2 (by simp at hn; omega) (by simpa using hl) (by simp at hf; omega)
      simpa using this
  | word hs h32 hw hh hok hx ih =>
    rename_i c w r o
    intro pre f n x3 x4 x5 hr hn hl hf
    cases n with
    | zero => omega
    | succ n =>
      have hr2 : (c :: w).all (· < 1000) = true ∧ r.all (· < 1000) = true := by
        rw [List.all_append, Bool.and_eq_true] at hr
        exact hr
      have hc : c < 1000 := by
        have := hr2.1
        simp at this
        exact this.1
      have hix : gIx (.str (pre ++ (c :: w ++ r))) (.int (pre.length : Int)) = some (.sh (.str [c])) := ixL pre (w ++ r) c hl
      have hsc := scan pre f pre.length x4 x5 none r hh (c :: w) pre 1000000 (by simp [hs]; simpa using hw) (by simp at hl ⊢; omega) hl
      have hcut := cut_at pre (c :: w) r (c :: w).length rfl
      have e : ((pre.length : Int) + ((c :: w).length : Int)) = (((pre ++ (c :: w)).length : Nat) : Int) := by simp
      rw [e] at hcut
      rw [whF, cnd _ _ _ _ _ _ hl, decide_eq_true (by simp)]
      simp only [if_true]
      rw [body_word hix hc h32 hs hsc hcut hl (by omega) hok]
      simp only [if_true]
      have := ih (pre ++ (c :: w)) (f ++ [c :: w]) n (some (.sh (.int ((pre ++ (c :: w)).length : Nat)))) (some (.sh (.str (c :: w)))) x5 hr2.2 (by simp at hn; omega) (by simpa using hl) (by simp at hf ⊢; omega)
      rw [List.append_assoc] at this
      cases o with
      | none => exact this
      | some ws =>
        obtain ⟨y3, y4, y5, q⟩ := this
        refine ⟨y3, y4, y5, ?_⟩
        rw [q]
        simp
  | bad hs h32 hw hh hok =>
    rename_i c w r
    intro pre f n x3 x4 x5 hr hn hl hf
    cases n with
    | zero => omega
    | succ n =>
      have hc : c < 1000 := by
        rw [List.all_append, Bool.and_eq_true] at hr
        have := hr.1
        simp at this
        exact this.1
      have hix : gIx (.str (pre ++ (c :: w ++ r))) (.int (pre.length : Int)) = some (.sh (.str [c])) := ixL pre (w ++ r) c hl
      have hsc := scan pre f pre.length x4 x5 none r hh (c :: w) pre 1000000 (by simp [hs]; simpa using hw) (by simp at hl ⊢; omega) hl
      have hcut := cut_at pre (c :: w) r (c :: w).length rfl
      have e : ((pre.length : Int) + ((c :: w).length : Int)) = (((pre ++ (c :: w)).length : Nat) : Int) := by simp
      rw [e] at hcut
      rw [whF, cnd _ _ _ _ _ _ hl, decide_eq_true (by simp)]
      simp only [if_true]
      rw [body_word hix hc h32 hs hsc hcut hl (by omega) hok]
      exact ⟨_, rfl⟩
  | mark hs h32 hm hx ih =>
    rename_i c m r o ms
    intro pre f n x3 x4 x5 hr hn hl hf
    cases n with
    | zero => omega
    | succ n =>
      have hr2 : (c :: m).all (· < 1000) = true ∧ r.all (· < 1000) = true := by
        rw [List.all_append, Bool.and_eq_true] at hr
        exact hr
      have hc : c < 1000 := by
        have := hr2.1
        simp at this
        exact this.1
      have hix := ixL pre (m ++ r) c hl
      have hb := body_mk (f := f) (x3 := x3) (x4 := x4) (x5 := x5) rfl hix hc h32 hs hl (by omega) hr
      have hm' : mkAt (c :: (m ++ r)) = (c :: m) :: ms := hm
      have hb2 : ∃ x5', b_words_of_2_0 (lxE (pre ++ c :: (m ++ r)) f pre.length x3 x4 x5 none) = some (.nx (lxE (pre ++ c :: (m ++ r)) (f ++ [c :: m]) (pre.length + (c :: m).length) x3 x4 x5' none)) := by
        have hb' := hb
        simp only [List.cons_append, hm'] at hb'
        exact hb'
      obtain ⟨y5, q⟩ := hb2
      rw [whF, cnd _ _ _ _ _ _ hl, decide_eq_true (by simp)]
      simp only [if_true, List.cons_append]
      rw [q]
      have := ih (pre ++ (c :: m)) (f ++ [c :: m]) n x3 x4 y5 hr2.2 (by simp at hn; omega) (by simpa using hl) (by simp at hf ⊢; omega)
      rw [List.append_assoc, List.length_append] at this
      cases o with
      | none => exact this
      | some ws =>
        obtain ⟨z3, z4, z5, q2⟩ := this
        refine ⟨z3, z4, z5, ?_⟩
        simp only [List.cons_append] at q2 ⊢
        rw [q2]
        simp
  | nomark hs h32 hm =>
    rename_i c r
    intro pre f n x3 x4 x5 hr hn hl hf
    cases n with
    | zero => omega
    | succ n =>
      have hc : c < 1000 := by
        simp at hr
        exact hr.1
      have hix := ixL pre r c hl
      have hb := body_mk (f := f) (x3 := x3) (x4 := x4) (x5 := x5) rfl hix hc h32 hs hl (by omega) hr
      rw [hm] at hb
      obtain ⟨e, q⟩ := hb
      rw [whF, cnd _ _ _ _ _ _ hl, decide_eq_true (by simp)]
      simp only [if_true]
      rw [q]
      exact ⟨_, rfl⟩
theorem words_of_ok {L : List Nat} {ws : List (List Nat)} (h : Lx L (some ws)) (hl : L.length < 10000) (hr : L.all (· < 1000) = true) : m_words_of [.str L] = some (.lst (ws.map .str)) := by
  obtain ⟨x3, x4, x5, q⟩ := lx_run h [] [] 1000000 none none none hr (by omega) (by simpa using hl) (by simp; omega)
  simp only [List.nil_append, List.length_nil] at q
  have q' : b_words_of_2 [some (.sh (.str L)), some (.lst []), some (.sh (.int 0)), none, none, none, none] = _ := q
  simp [m_words_of, defF, entE, runB, b_words_of, sSeq, b_words_of_0, sSet, fLst, qNil, setE, b_words_of_1, fC, q', lxE, b_words_of_3, sRet, pur, fVar, frz]
theorem words_of_no {L : List Nat} (h : Lx L none) (hl : L.length < 10000) (hr : L.all (· < 1000) = true) : m_words_of [.str L] = some .non := by
  obtain ⟨e, q⟩ := lx_run h [] [] 1000000 none none none hr (by omega) (by simpa using hl) (by simp; omega)
  simp only [List.nil_append, List.length_nil] at q
  have q' : b_words_of_2 [some (.sh (.str L)), some (.lst []), some (.sh (.int 0)), none, none, none, none] = _ := q
  simp [m_words_of, defF, entE, runB, b_words_of, sSeq, b_words_of_0, sSet, fLst, qNil, setE, b_words_of_1, fC, q']
end K00
set_option Elab.async false
set_option linter.all false
set_option maxRecDepth 100000
namespace K00
open PySem DL
def gws : List (List Nat) := [[97], [120, 49], [119, 105, 115, 104], [117, 95, 50], [48], [49, 55], [119, 105, 116, 104, 105, 110], [98, 50, 51, 52, 53, 54, 55, 56, 57, 48, 49, 95], [57, 57, 57, 57, 57, 57], [103, 105, 118, 101, 110]]
def isM (c : Nat) : Bool := mks.flatten.contains c
def hdM : List Nat → Bool
  | [] => true
  | c :: _ => !isM c
def okG (w : List Nat) : Bool := !w.isEmpty && w.all isSg && w.all (fun c => !(c == 32)) && (okW w == some true)
theorem gws_ok : ∀ w ∈ gws, okG w = true := by decide +kernel
def okMk (m : List Nat) : Bool := !m.isEmpty && m.all (fun c => !isSg c && !(c == 32)) && ((mkAt m).head? == some m) && (gws.contains m == false)
theorem mks_ok : ∀ m ∈ mks, okMk m = true := by decide +kernel
theorem inG : ∀ w ∈ gws ++ mks, inB (.str w) (.lst (gws.map .str)) = some (gws.contains w) := by decide +kernel
theorem sgM : ∀ c ∈ z_SIGNS, isM c = false := by decide +kernel
theorem lx_good {w r : List Nat} {o : Option (List (List Nat))} (hw : w ∈ gws) (hr : hdN r = true) (h : Lx r o) : Lx (w ++ r) (o.map (w :: ·)) := by
  have := gws_ok w hw
  cases w with
  | nil => simp [okG] at this
  | cons c w =>
    simp only [okG, Bool.and_eq_true, List.all_cons, beq_iff_eq] at this
    obtain ⟨⟨⟨_, h1, h2⟩, h3, h4⟩, h5⟩ := this
    exact .word h1 (by simpa using h3) h2 hr h5 h
theorem mkAt_app {m r : List Nat} (hr : hdM r = true) : mkAt (m ++ r) = mkAt m := by
  unfold mkAt
  refine List.filter_congr fun m' hm' => ?_
  by_cases hlen : m'.length ≤ m.length
  · rw [List.take_append_of_le_length hlen]
  · have e2 : (List.take m'.length m == m') = false := by
      rw [beq_eq_false_iff_ne]
      intro e
      have := congrArg List.length e
      simp at this
      omega
    rw [e2, beq_eq_false_iff_ne]
    intro e
    cases r with
    | nil =>
      have := congrArg List.length e
      simp at this
      omega
    | cons c r =>
      have hc : c ∈ m' := by
        rw [← e, List.mem_iff_getElem?]
        refine ⟨m.length, ?_⟩
        rw [List.getElem?_take, if_pos (by omega), List.getElem?_append_right (Nat.le_refl _)]
        simp
      have : isM c = true := by
        unfold isM
        rw [List.contains_iff_mem, List.mem_flatten]
        exact ⟨m', hm', hc⟩
      simp [hdM, this] at hr
theorem lx_mark {m r : List Nat} {o : Option (List (List Nat))} (hm : m ∈ mks) (hr : hdM r = true) (h : Lx r o) : Lx (m ++ r) (o.map (m :: ·)) := by
  have := mks_ok m hm
  cases m with
  | nil => simp [okMk] at this
  | cons c m =>
    simp only [okMk, Bool.and_eq_true, List.all_cons, beq_iff_eq] at this
    obtain ⟨⟨⟨_, ⟨h1, h2⟩, _⟩, h3⟩, _⟩ := this
    have h4 := mkAt_app (m := c :: m) hr
    cases q : mkAt (c :: m) with
    | nil => rw [q] at h3; cases h3
    | cons a ms =>
      rw [q] at h3
      simp only [List.head?_cons, Option.some.injEq] at h3
      subst h3
      exact .mark (by simpa using h1) (by simpa using h2) (h4.trans q) h
/-- may this stand after these words -/
def aft (due : List (List Nat)) (r : List Nat) : Bool := match due.getLast? with
  | none => true
  | some w => if gws.contains w then hdN r else hdM r
def Inv (line : List Nat) (due : List (List Nat)) : Prop := ∀ (r : List Nat) (o : Option (List (List Nat))), aft due r = true → Lx r o → Lx (line ++ r) (o.map (due ++ ·))
theorem inv0 : Inv [] [] := fun r o _ h => by
  cases o <;> simpa using h
theorem aft32 (due : List (List Nat)) (r : List Nat) : aft due (32 :: r) = true := by
  unfold aft
  split
  · rfl
  · split
    · rfl
    · rfl
theorem inv_sp {line : List Nat} {due : List (List Nat)} (h : Inv line due) {w : List Nat} (hw : w ∈ gws ++ mks) (n : Nat) (hn : 0 < n ∨ due = [] ∨ ∃ d u, due = d ++ [u] ∧ gws.contains u ≠ gws.contains w ∧ u ∈ gws ++ mks) : Inv (line ++ (List.replicate n 32 ++ w)) (due ++ [w]) := by
  intro r o ha hx
  have e1 : aft (due ++ [w]) r = if gws.contains w then hdN r else hdM r := by
    unfold aft
    simp
  rw [e1] at ha
  have hwr : Lx (w ++ r) (o.map (w :: ·)) := by
    by_cases hg : gws.contains w = true
    · rw [if_pos hg] at ha
      exact lx_good (by simpa using hg) ha hx
    · rw [if_neg hg] at ha
      rcases List.mem_append.mp hw with q | q
      · exact absurd (by simpa using q) hg
      · exact lx_mark q ha hx
  have hsp : ∀ n : Nat, Lx (List.replicate n 32 ++ (w ++ r)) (o.map (w :: ·)) := fun n => by
    induction n with
    | zero => simpa using hwr
    | succ n ih => exact .sp ih
  have key : aft due (List.replicate n 32 ++ (w ++ r)) = true := by
    rcases hn with q | q | ⟨d, u, q, hne, hu⟩
    · cases n with
      | zero => omega
      | succ n => exact aft32 due _
    · subst q
      rfl
    · cases n with
      | succ n => exact aft32 due _
      | zero =>
        subst q
        have e2 : aft (d ++ [u]) (List.replicate 0 32 ++ (w ++ r)) = if gws.contains u then hdN (w ++ r) else hdM (w ++ r) := by
          unfold aft
          simp
        rw [e2]
        by_cases hg : gws.contains w = true
        · have hgu : ¬ gws.contains u = true := fun z => hne (z.trans hg.symm)
          rw [if_neg hgu]
          have := gws_ok w (by simpa using hg)
          cases w with
          | nil => simp [okG] at this
          | cons c w =>
            simp only [okG, Bool.and_eq_true, List.all_cons, beq_iff_eq] at this
            have hc : c ∈ z_SIGNS := by simpa [isSg] using this.1.1.2.1
            simp [hdM, sgM c hc]
        · have hgu : gws.contains u = true := by
            cases q1 : gws.contains u
            · exact absurd (q1.trans (by simpa using hg)) hne
            · rfl
          rw [if_pos hgu]
          have hm : w ∈ mks := by
            rcases List.mem_append.mp hw with q | q
            · exact absurd (by simpa using q) hg
            · exact q
          have := mks_ok w hm
          cases w with
          | nil => simp [okMk] at this
          | cons c w =>
            simp only [okMk, Bool.and_eq_true, List.all_cons, beq_iff_eq] at this
            have hc : isSg c = false := by simpa using this.1.1.2.1.1
            simp [hdN, hc]
  have := h _ _ key (hsp n)
  rw [List.append_assoc, List.append_assoc]
  cases o with
  | none => exact this
  | some ws => simpa using this
end K00
set_option Elab.async false
set_option linter.all false
set_option maxRecDepth 100000
namespace K00
open PySem DL
theorem gix_map {ws : List (List Nat)} {d : Int} (h0 : 0 ≤ d) (h1 : d < (ws.length : Int)) : ∃ w ∈ ws, gIx (.lst (ws.map .str)) (.int d) = some (.sh (.str w)) := by
  have hd : d.toNat < ws.length := by omega
  refine ⟨ws[d.toNat], List.getElem_mem _, ?_⟩
  have e : atN (ws.map Dt.str).length d = some d.toNat := by
    unfold atN
    rw [if_pos h0, if_pos (by simpa using h1)]
  simp only [gIx, e]
  rw [List.getElem?_map, List.getElem?_eq_getElem hd]
  rfl
theorem gix_last (due : List (List Nat)) (u : List Nat) : gIx (.lst ((due ++ [u]).map .str)) (.int (-1)) = some (.sh (.str u)) := by
  have e : atN ((due ++ [u]).map Dt.str).length (-1) = some due.length := by
    unfold atN
    rw [if_neg (by omega), if_pos (by simp; omega)]
    simp
    omega
  simp only [gIx, e]
  simp
theorem len1 {ds : List Int} {s0 : Int} (h : InR ds [s0]) : ∃ d0, ds = [d0] ∧ 0 ≤ d0 ∧ d0 < s0 := by
  obtain ⟨hl, hr⟩ := h
  match ds, hl with
  | [d0], _ => exact ⟨d0, rfl, hr 0 d0 s0 rfl rfl⟩
theorem len2 {ds : List Int} {s0 s1 : Int} (h : InR ds [s0, s1]) : ∃ d0 d1, ds = [d0, d1] ∧ (0 ≤ d0 ∧ d0 < s0) ∧ (0 ≤ d1 ∧ d1 < s1) := by
  obtain ⟨hl, hr⟩ := h
  match ds, hl with
  | [d0, d1], _ => exact ⟨d0, d1, rfl, hr 0 d0 s0 rfl rfl, hr 1 d1 s1 rfl rfl⟩
theorem len4 {ds : List Int} {s0 s1 s2 s3 : Int} (h : InR ds [s0, s1, s2, s3]) : ∃ d0 d1 d2 d3, ds = [d0, d1, d2, d3] ∧ (0 ≤ d0 ∧ d0 < s0) ∧ (0 ≤ d1 ∧ d1 < s1) ∧ (0 ≤ d2 ∧ d2 < s2) ∧ (0 ≤ d3 ∧ d3 < s3) := by
  obtain ⟨hl, hr⟩ := h
  match ds, hl with
  | [d0, d1, d2, d3], _ => exact ⟨d0, d1, d2, d3, rfl, hr 0 d0 s0 rfl rfl, hr 1 d1 s1 rfl rfl, hr 2 d2 s2 rfl rfl, hr 3 d3 s3 rfl rfl⟩
def lwE (ns : List Int) (line : List Nat) (due : List (List Nat)) (x5 x6 x7 : Option Ow) : DEnv :=
  [some (.sh (.lst (ns.map .int))), some (.lst (gws.map .str)), some (.lst (mks.map .str)), some (.sh (.str line)), some (.lst (due.map .str)), x5, x6, x7, none, none, none, none, none, none, none, none, none, none]
structure Stt (line : List Nat) (due : List (List Nat)) (k : Nat) : Prop where
  inv : Inv line due
  len : due.length = k
  ll : line.length ≤ 20 * k
  sm : line.all (· < 1000) = true
  mem : ∀ w ∈ due, w ∈ gws ++ mks
theorem word_len : ∀ w ∈ gws ++ mks, w.length ≤ 12 ∧ w.all (· < 1000) = true := by decide +kernel
theorem Stt.step {line : List Nat} {due : List (List Nat)} {k : Nat} (s : Stt line due k) {w : List Nat} (hw : w ∈ gws ++ mks) (n : Nat) (hn3 : n ≤ 3) (hn : 0 < n ∨ due = [] ∨ ∃ d u, due = d ++ [u] ∧ gws.contains u ≠ gws.contains w ∧ u ∈ gws ++ mks) : Stt (line ++ (List.replicate n 32 ++ w)) (due ++ [w]) (k + 1) := by
  have h := word_len w hw
  refine ⟨inv_sp s.inv hw n hn, by simp [s.len], ?_, ?_, ?_⟩
  · have := s.ll
    simp
    omega
  · rw [List.all_append, List.all_append, s.sm, h.2]
    simp
  · intro v hv
    rcases List.mem_append.mp hv with q | q
    · exact s.mem v q
    · simp at q
      rw [q]
      exact hw
theorem szs4 : ∀ s ∈ ([10, 19, 3, 2] : List Int), szOk s = true := by decide
theorem turn1 {ns : List Int} {line : List Nat} {due : List (List Nat)} {k : Nat} {x6 x7 : Option Ow} : ∃ (w : List Nat) (d0 d1 d2 d3 : Int), w ∈ gws ++ mks ∧ 0 ≤ d2 ∧ d2 < 3 ∧
    sSeq b_law_3_0 (sSeq b_law_3_1 (sSeq b_law_3_2 b_law_3_3)) (lwE ns line due (some (.sh (.int (k : Int)))) x6 x7)
      = sSeq b_law_3_2 b_law_3_3 (lwE ns line due (some (.sh (.int (k : Int)))) (some (.sh (.lst [.int d0, .int d1, .int d2, .int d3]))) (some (.sh (.str w)))) := by
  obtain ⟨ds, hR, hd⟩ := draw_sem ns [10, 19, 3, 2] k szs4 (by decide)
  obtain ⟨d0, d1, d2, d3, rfl, h0, h1, h2, h3⟩ := len4 hR
  simp only [List.map_cons, List.map_nil] at hd
  obtain ⟨wg, hwg, eg⟩ := gix_map (ws := gws) h0.1 (show d0 < (gws.length : Int) from h0.2)
  obtain ⟨wm, hwm, em⟩ := gix_map (ws := mks) h1.1 (show d1 < (mks.length : Int) from h1.2)
  have g0 : gIx (.lst [.int d0, .int d1, .int d2, .int d3]) (.int 0) = some (.sh (.int d0)) := rfl
  have g1 : gIx (.lst [.int d0, .int d1, .int d2, .int d3]) (.int 1) = some (.sh (.int d1)) := rfl
  have g3 : gIx (.lst [.int d0, .int d1, .int d2, .int d3]) (.int 3) = some (.sh (.int d3)) := rfl
  have e0 : b_law_3_0 (lwE ns line due (some (.sh (.int (k : Int)))) x6 x7) = some (.nx (lwE ns line due (some (.sh (.int (k : Int)))) (some (.sh (.lst [.int d0, .int d1, .int d2, .int d3]))) x7)) := by
    simp [b_law_3_0, sSet, fCall, qCons, qNil, pur, fVar, frz, fC, fLst, lwE, hd, setE]
  have pick : ∃ w ∈ gws ++ mks, b_law_3_1 (lwE ns line due (some (.sh (.int (k : Int)))) (some (.sh (.lst [.int d0, .int d1, .int d2, .int d3]))) x7) = some (.nx (lwE ns line due (some (.sh (.int (k : Int)))) (some (.sh (.lst [.int d0, .int d1, .int d2, .int d3]))) (some (.sh (.str w))))) := by
    by_cases q : d3 = 0
    · refine ⟨wg, List.mem_append_left _ hwg, ?_⟩
      subst q
      simp [b_law_3_1, sSet, fIf, fB, fOp, fIxV, pur, fVar, frz, fC, vwE, lwE, g0, g1, g3, gEq, Dt.shp, Dt.sgn, Dt.dep, eqD, eg, setE]
    · refine ⟨wm, List.mem_append_right _ hwm, ?_⟩
      simp [b_law_3_1, sSet, fIf, fB, fOp, fIxV, pur, fVar, frz, fC, vwE, lwE, g0, g1, g3, gEq, Dt.shp, Dt.sgn, Dt.dep, eqD, q, em, setE]
  obtain ⟨w, hw, ew⟩ := pick
  refine ⟨w, d0, d1, d2, d3, hw, h2.1, h2.2, ?_⟩
  rw [sSeq, e0]
  simp only
  rw [sSeq, ew]
end K00
set_option Elab.async false
set_option linter.all false
set_option maxRecDepth 100000
namespace K00
open PySem DL
theorem turn2 {ns : List Int} {line : List Nat} {due : List (List Nat)} {k : Nat} (s : Stt line due k) (hk : k < 12) {w : List Nat} (hw : w ∈ gws ++ mks) {d0 d1 d2 d3 : Int} (h0 : 0 ≤ d2) (h1 : d2 < 3) :
    ∃ line', Stt line' (due ++ [w]) (k + 1) ∧ sSeq b_law_3_2 b_law_3_3 (lwE ns line due (some (.sh (.int (k : Int)))) (some (.sh (.lst [.int d0, .int d1, .int d2, .int d3]))) (some (.sh (.str w))))
      = some (.nx (lwE ns line' (due ++ [w]) (some (.sh (.int (k : Int)))) (some (.sh (.lst [.int d0, .int d1, .int d2, .int d3]))) (some (.sh (.str w))))) := by
  have g2 : gIx (.lst [.int d0, .int d1, .int d2, .int d3]) (.int 2) = some (.sh (.int d2)) := rfl
  have hll := s.ll
  have hwl := (word_len w hw).1
  have hdl : Nat.blt due.length 16777216 = true := Nat.ble_eq_true_of_le (by have := s.len; omega)
  have iw := inG w hw
  have tail : ∀ line', b_law_3_3 (lwE ns line' due (some (.sh (.int (k : Int)))) (some (.sh (.lst [.int d0, .int d1, .int d2, .int d3]))) (some (.sh (.str w)))) = some (.nx (lwE ns line' (due ++ [w]) (some (.sh (.int (k : Int)))) (some (.sh (.lst [.int d0, .int d1, .int d2, .int d3]))) (some (.sh (.str w))))) := fun line' => by
    simp [b_law_3_3, sApp, lwE, pur, fVar, frz, hdl]
  have spc : b_law_3_2e_0 (lwE ns line due (some (.sh (.int (k : Int)))) (some (.sh (.lst [.int d0, .int d1, .int d2, .int d3]))) (some (.sh (.str w)))) = some (.nx (lwE ns (line ++ (List.replicate (1 + d2).toNat 32 ++ w)) due (some (.sh (.int (k : Int)))) (some (.sh (.lst [.int d0, .int d1, .int d2, .int d3]))) (some (.sh (.str w))))) := by
    have hz1 : Nat.ble (line.length + (1 + d2).toNat) 16777216 = true := Nat.ble_eq_true_of_le (by omega)
    have hz2 : Nat.ble (line.length + (1 + d2).toNat + w.length) 16777216 = true := Nat.ble_eq_true_of_le (by omega)
    have hmul : gMul (.str [32]) (.int (1 + d2)) = some (.sh (.str (List.replicate (1 + d2).toNat 32))) := by
      have : d2 = 0 ∨ d2 = 1 ∨ d2 = 2 := by omega
      rcases this with q | q | q <;> subst q <;> rfl
    simp [b_law_3_2e_0, sSet, fOp, pur, fVar, frz, lwE, fC, fIxV, vwE, g2, gAdd, hmul, hz1, hz2, setE]
  have one : 0 < (1 + d2).toNat := by omega
  have far : (fAnd (fB (fOp gGt (fVar 5) (fC (.int 0)))) (fAnd (fB (fOp gEq (fIxV 6 (fC (.int 2))) (fC (.int 0)))) (fB (fOp gNe (fOpV gIn (fIxV 4 (fUn gNeg (fC (.int 1)))) 1) (fOpV gIn (fVar 7) 1))))) (lwE ns line due (some (.sh (.int (k : Int)))) (some (.sh (.lst [.int d0, .int d1, .int d2, .int d3]))) (some (.sh (.str w)))) = some (false, lwE ns line due (some (.sh (.int (k : Int)))) (some (.sh (.lst [.int d0, .int d1, .int d2, .int d3]))) (some (.sh (.str w)))) →
      ∃ line', Stt line' (due ++ [w]) (k + 1) ∧ sSeq b_law_3_2 b_law_3_3 (lwE ns line due (some (.sh (.int (k : Int)))) (some (.sh (.lst [.int d0, .int d1, .int d2, .int d3]))) (some (.sh (.str w))))
      = some (.nx (lwE ns line' (due ++ [w]) (some (.sh (.int (k : Int)))) (some (.sh (.lst [.int d0, .int d1, .int d2, .int d3]))) (some (.sh (.str w))))) := fun hc => by
    refine ⟨_, s.step hw (1 + d2).toNat (by omega) (.inl one), ?_⟩
    unfold sSeq b_law_3_2 sIf
    rw [hc]
    simp only [Bool.false_eq_true, if_false]
    rw [spc]
    exact tail _
  by_cases hk0 : k = 0
  · refine far ?_
    subst hk0
    simp [fAnd, fB, fOp, pur, fVar, frz, lwE, fC, gGt, gIB]
  · have hkp : (0 : Int) < (k : Int) := by omega
    obtain ⟨d, u, hdu⟩ : ∃ d u, due = d ++ [u] := by
      rcases List.eq_nil_or_concat due with q | ⟨d, u, q⟩
      · have := s.len
        rw [q] at this
        simp at this
        omega
      · exact ⟨d, u, by rw [q, List.concat_eq_append]⟩
    have hu : u ∈ gws ++ mks := s.mem u (by rw [hdu]; simp)
    have iu := inG u hu
    have gl : gIx (.lst (due.map .str)) (.int (-1)) = some (.sh (.str u)) := by rw [hdu]; exact gix_last d u
    have sclb : ∀ b, scl (.sh (.bl b)) = true := fun b => rfl
    have c1 : fB (fOp gGt (fVar 5) (fC (.int 0))) (lwE ns line due (some (.sh (.int (k : Int)))) (some (.sh (.lst [.int d0, .int d1, .int d2, .int d3]))) (some (.sh (.str w)))) = some (true, lwE ns line due (some (.sh (.int (k : Int)))) (some (.sh (.lst [.int d0, .int d1, .int d2, .int d3]))) (some (.sh (.str w)))) := by
      simp [fB, fOp, pur, fVar, frz, lwE, fC, gGt, gIB]
      omega
    have c2 : fB (fOp gEq (fIxV 6 (fC (.int 2))) (fC (.int 0))) (lwE ns line due (some (.sh (.int (k : Int)))) (some (.sh (.lst [.int d0, .int d1, .int d2, .int d3]))) (some (.sh (.str w)))) = some (d2 == 0, lwE ns line due (some (.sh (.int (k : Int)))) (some (.sh (.lst [.int d0, .int d1, .int d2, .int d3]))) (some (.sh (.str w)))) := by
      simp [fB, fOp, pur, fVar, frz, lwE, fC, fIxV, vwE, g2, gEq, Dt.shp, Dt.sgn, Dt.dep, eqD]
    have c3 : fB (fOp gNe (fOpV gIn (fIxV 4 (fUn gNeg (fC (.int 1)))) 1) (fOpV gIn (fVar 7) 1)) (lwE ns line due (some (.sh (.int (k : Int)))) (some (.sh (.lst [.int d0, .int d1, .int d2, .int d3]))) (some (.sh (.str w)))) = some (!(gws.contains u == gws.contains w), lwE ns line due (some (.sh (.int (k : Int)))) (some (.sh (.lst [.int d0, .int d1, .int d2, .int d3]))) (some (.sh (.str w)))) := by
      generalize gws.contains u = bu at iu ⊢
      generalize gws.contains w = bw at iw ⊢
      simp only [fB, fOp, pur, fVar, frz, lwE, fC, fIxV, vwE, fUn, gNeg, fOpV, gl, gIn, iu, iw, sclb, gNe, Dt.shp, Dt.sgn, Dt.dep, eqD, if_true, List.getElem?_cons_zero, List.getElem?_cons_succ]
      simp [Nat.ble]
    by_cases h2 : d2 = 0
    · by_cases hne : gws.contains u = gws.contains w
      · refine far ?_
        have hd2 : (d2 == 0) = true := beq_iff_eq.mpr h2
        have hnb : (gws.contains u == gws.contains w) = true := beq_iff_eq.mpr hne
        simp only [fAnd, c1, c2, c3, if_true, hd2, hnb, Bool.not_true]
      · refine ⟨_, s.step hw 0 (by omega) (.inr (.inr ⟨d, u, hdu, hne, hu⟩)), ?_⟩
        have hz : Nat.ble (line.length + w.length) 16777216 = true := Nat.ble_eq_true_of_le (by omega)
        have hadd : b_law_3_2_0 (lwE ns line due (some (.sh (.int (k : Int)))) (some (.sh (.lst [.int d0, .int d1, .int d2, .int d3]))) (some (.sh (.str w)))) = some (.nx (lwE ns (line ++ (List.replicate 0 32 ++ w)) due (some (.sh (.int (k : Int)))) (some (.sh (.lst [.int d0, .int d1, .int d2, .int d3]))) (some (.sh (.str w))))) := by
          simp [b_law_3_2_0, sSet, fOp, pur, fVar, frz, lwE, gAdd, hz, setE]
        have hnb : (gws.contains u == gws.contains w) = false := beq_eq_false_iff_ne.mpr hne
        unfold sSeq b_law_3_2 sIf
        have hd2 : (d2 == 0) = true := beq_iff_eq.mpr h2
        simp only [fAnd, c1, c2, c3, if_true, hd2, hnb, Bool.not_false]
        rw [hadd]
        exact tail _
    · refine far ?_
      have hd2 : (d2 == 0) = false := beq_eq_false_iff_ne.mpr h2
      simp only [fAnd, c1, c2, c3, if_true, hd2, Bool.false_eq_true, if_false]
end K00
set_option Elab.async false
set_option linter.all false
set_option maxRecDepth 100000
namespace K00
open PySem DL
def shO : Option Ow → Bool
  | some (.lst _) => false
  | _ => true
theorem turns {ns : List Int} : ∀ (n k : Nat) (line : List Nat) (due : List (List Nat)) (x5 x6 x7 : Option Ow), k + n = 12 → Stt line due k → shO x5 = true → shO x7 = true →
    ∃ line' due' x5' x6' x7', Stt line' due' 12 ∧ shO x5' = true ∧ shO x7' = true ∧ forF (gN 5) (sSeq b_law_3_0 (sSeq b_law_3_1 (sSeq b_law_3_2 b_law_3_3))) (tn k n) (lwE ns line due x5 x6 x7) = some (.nx (lwE ns line' due' x5' x6' x7'))
  | 0, k, line, due, x5, x6, x7, e, s, h5, h7 => by
    have : k = 12 := by omega
    subst this
    exact ⟨line, due, x5, x6, x7, s, h5, h7, rfl⟩
  | n + 1, k, line, due, x5, x6, x7, e, s, h5, h7 => by
    obtain ⟨w, d0, d1, d2, d3, hw, h0, h1, e1⟩ := turn1 (ns := ns) (line := line) (due := due) (k := k) (x6 := x6) (x7 := x7)
    obtain ⟨line', s', e2⟩ := turn2 (ns := ns) s (by omega) hw (d0 := d0) (d1 := d1) (d3 := d3) h0 h1
    obtain ⟨l2, du2, y5, y6, y7, s2, z5, z7, e3⟩ := turns n (k + 1) line' (due ++ [w]) (some (.sh (.int (k : Int)))) _ (some (.sh (.str w))) (by omega) s' rfl rfl
    refine ⟨l2, du2, y5, y6, y7, s2, z5, z7, ?_⟩
    have eg : gN 5 (.int (k : Nat)) (lwE ns line due x5 x6 x7) = some (lwE ns line due (some (.sh (.int (k : Int)))) x6 x7) := rfl
    rw [tn, forF, eg]
    simp only
    rw [e1, e2]
    exact e3
theorem stt0 : Stt [] [] 0 := ⟨inv0, rfl, by simp, rfl, by simp⟩
theorem loop12 (ns : List Int) : ∃ line due x5 x6 x7, Stt line due 12 ∧ shO x5 = true ∧ shO x7 = true ∧ b_law_3 (lwE ns [] [] none none none) = some (.nx (lwE ns line due x5 x6 x7)) := by
  obtain ⟨l, d, y5, y6, y7, s, z5, z7, e⟩ := turns (ns := ns) 12 0 [] [] none none none rfl stt0 rfl rfl
  exact ⟨l, d, y5, y6, y7, s, z5, z7, e⟩
/-! ### the closed part -/
def cst (f : Fs) (i : Nat) : Option Ow := match f (List.replicate 18 none) with
  | some (.nx e) => match e[i]? with
    | some o => o
    | none => none
  | _ => none
def fz : Option Ow → Option Ow
  | some o => some (.sh (frz o))
  | none => none
section
variable (a0 a1 a2 a3 a4 a5 a6 : Option Ow)
theorem t5 (a7 : Option Ow) : b_law_5 [a0, a1, a2, a3, a4, a5, a6, a7, none, none, none, none, none, none, none, none, none, none] = some (.nx [a0, a1, a2, a3, a4, a5, a6, a7, cst b_law_5 8, none, none, none, none, none, none, none, none, none]) := by kernel_rfl
theorem t6 (a7 : Option Ow) : b_law_6 [a0, a1, a2, a3, a4, a5, a6, a7, cst b_law_5 8, none, none, none, none, none, none, none, none, none] = some (.nx [a0, a1, a2, a3, a4, a5, a6, a7, fz (cst b_law_5 8), none, none, none, none, none, none, none, none, none]) := by kernel_rfl
def s9 : Fs := sSeq b_law_7 (sSeq b_law_8 b_law_9)
theorem t9 (a7 a8 : Option Ow) : s9 [a0, a1, a2, a3, a4, a5, a6, a7, a8, none, none, none, none, none, none, none, none, none] = some (.nx [a0, a1, a2, a3, a4, a5, a6, a7, a8, cst s9 9, none, none, none, none, none, none, none, none]) := by kernel_rfl
theorem t10 (a7 a8 : Option Ow) (h : shO a7 = true) : b_law_10 [a0, a1, a2, a3, a4, a5, a6, a7, a8, cst s9 9, none, none, none, none, none, none, none, none] = some (.nx [a0, a1, a2, a3, a4, a5, a6, a7, a8, cst s9 9, none, none, none, none, none, none, none, none]) := by
  cases a7 with
  | none => kernel_rfl
  | some o => cases o with
    | sh d => kernel_rfl
    | lst ds => cases h
theorem t11 (a7 a8 a9 : Option Ow) : b_law_11 [a0, a1, a2, a3, a4, a5, a6, a7, a8, a9, none, none, none, none, none, none, none, none] = some (.nx [a0, a1, a2, a3, a4, a5, a6, a7, a8, a9, cst b_law_11 10, none, none, none, none, none, none, none]) := by kernel_rfl
theorem t12 (a7 a8 a9 : Option Ow) : b_law_12 [a0, a1, a2, a3, a4, a5, a6, a7, a8, a9, cst b_law_11 10, none, none, none, none, none, none, none] = some (.nx [a0, a1, a2, a3, a4, a5, a6, a7, a8, a9, fz (cst b_law_11 10), none, none, none, none, none, none, none]) := by kernel_rfl
def wrongs : List (List Nat) := [[97, 32, 63, 32, 98], [98, 50, 51, 52, 53, 54, 55, 56, 57, 48, 49, 95, 99], [48, 49], [49, 97], [95], [97, 9, 98], [97, 32, 46, 32, 98], List.replicate 131 57]
theorem t14 (a7 a8 a9 a10 : Option Ow) {d0 d1 : Int} (h0 : 0 ≤ d0 ∧ d0 < 8) : ∃ w ∈ wrongs, b_law_14 [a0, a1, a2, a3, a4, a5, some (.sh (.lst [.int d0, .int d1])), a7, a8, a9, a10, none, none, none, none, none, none, none] = some (.nx [a0, a1, a2, a3, a4, a5, some (.sh (.lst [.int d0, .int d1])), a7, a8, a9, a10, some (.sh (.str w)), none, none, none, none, none, none]) := by
  have : d0 = 0 ∨ d0 = 1 ∨ d0 = 2 ∨ d0 = 3 ∨ d0 = 4 ∨ d0 = 5 ∨ d0 = 6 ∨ d0 = 7 := by omega
  rcases this with q | q | q | q | q | q | q | q <;> subst q
  · exact ⟨wrongs[0], by simp [wrongs], by kernel_rfl⟩
  · exact ⟨wrongs[1], by simp [wrongs], by kernel_rfl⟩
  · exact ⟨wrongs[2], by simp [wrongs], by kernel_rfl⟩
  · exact ⟨wrongs[3], by simp [wrongs], by kernel_rfl⟩
  · exact ⟨wrongs[4], by simp [wrongs], by kernel_rfl⟩
  · exact ⟨wrongs[5], by simp [wrongs], by kernel_rfl⟩
  · exact ⟨wrongs[6], by simp [wrongs], by kernel_rfl⟩
  · exact ⟨wrongs[7], by simp [wrongs], by kernel_rfl⟩
def s19 : Fs := sSeq b_law_16 (sSeq b_law_17 (sSeq b_law_18 b_law_19))
theorem t19 (a7 a8 a9 a10 a11 : Option Ow) : s19 [a0, a1, a2, a3, a4, a5, a6, a7, a8, a9, a10, a11, none, none, none, none, none, none] = some (.nx [a0, a1, a2, a3, a4, a5, a6, a7, a8, a9, a10, a11, cst s19 12, none, none, none, none, none]) := by kernel_rfl
theorem t20 (a7 a8 a9 a10 a11 : Option Ow) : b_law_20 [a0, a1, a2, a3, a4, a5, a6, a7, a8, a9, a10, a11, cst s19 12, none, none, none, none, none] = some (.nx [a0, a1, a2, a3, a4, a5, a6, a7, a8, a9, a10, a11, fz (cst s19 12), none, none, none, none, none]) := by kernel_rfl
theorem t22 (a7 a8 a9 a10 a11 a12 : Option Ow) {d0 d1 : Int} (h : shO a5 = true) (h1 : 0 ≤ d1 ∧ d1 < 4) : runB (sSeq b_law_21 b_law_22) [a0, a1, a2, a3, a4, a5, some (.sh (.lst [.int d0, .int d1])), a7, a8, a9, a10, a11, a12, none, none, none, none, none] = some (.bl true) := by
  have : d1 = 0 ∨ d1 = 1 ∨ d1 = 2 ∨ d1 = 3 := by omega
  cases a5 with
  | none => rcases this with q | q | q | q <;> subst q <;> kernel_rfl
  | some o => cases o with
    | sh d => rcases this with q | q | q | q <;> subst q <;> kernel_rfl
    | lst ds => cases h
end
/-! ### the wrong words -/
theorem lx_word {w r : List Nat} {o : Option (List (List Nat))} (h : (match w with | [] => false | c :: v => isSg c && !(c == 32) && v.all isSg && hdN r && (okW w == some true)) = true) (hx : Lx r o) : Lx (w ++ r) (o.map (w :: ·)) := by
  cases w with
  | nil => cases h
  | cons c v =>
    simp only [Bool.and_eq_true, beq_iff_eq, Bool.not_eq_true', beq_eq_false_iff_ne] at h
    exact .word h.1.1.1.1 h.1.1.1.2 h.1.1.2 h.1.2 h.2 hx
theorem lx_bad {w r : List Nat} (h : (match w with | [] => false | c :: v => isSg c && !(c == 32) && v.all isSg && hdN r && (okW w == some false)) = true) : Lx (w ++ r) none := by
  cases w with
  | nil => cases h
  | cons c v =>
    simp only [Bool.and_eq_true, beq_iff_eq, Bool.not_eq_true', beq_eq_false_iff_ne] at h
    exact .bad h.1.1.1.1 h.1.1.1.2 h.1.1.2 h.1.2 h.2
theorem lx_nomark {r : List Nat} (h : (match r with | [] => false | c :: _ => !(isSg c) && !(c == 32) && (mkAt r).isEmpty) = true) : Lx r none := by
  cases r with
  | nil => cases h
  | cons c v =>
    simp only [Bool.and_eq_true, Bool.not_eq_true', beq_eq_false_iff_ne, List.isEmpty_iff] at h
    exact .nomark h.1.1 h.1.2 h.2
theorem lx_bad0 {w : List Nat} (h : (match w with | [] => false | c :: v => isSg c && !(c == 32) && v.all isSg && hdN [] && (okW w == some false)) = true) : Lx w none := by
  have := lx_bad (r := []) h
  simpa using this
theorem wrong_lx : ∀ w ∈ wrongs, Lx (32 :: w) none := by
  intro w hw
  simp only [wrongs, List.mem_cons, List.mem_nil_iff, or_false] at hw
  rcases hw with q | q | q | q | q | q | q | q <;> subst q
  · exact .sp (lx_word (w := [97]) (r := [32, 63, 32, 98]) (o := none) (by decide +kernel) (.sp (lx_nomark (by decide +kernel))))
  · exact .sp (lx_bad0 (by decide +kernel))
  · exact .sp (lx_bad0 (by decide +kernel))
  · exact .sp (lx_bad0 (by decide +kernel))
  · exact .sp (lx_bad0 (by decide +kernel))
  · exact .sp (lx_word (w := [97]) (r := [9, 98]) (o := none) (by decide +kernel) (lx_nomark (by decide +kernel)))
  · exact .sp (lx_word (w := [97]) (r := [32, 46, 32, 98]) (o := none) (by decide +kernel) (.sp (lx_nomark (by decide +kernel))))
  · exact .sp (lx_bad0 (by decide +kernel))
theorem wrongs_sm : ∀ w ∈ wrongs, w.length ≤ 200 ∧ w.all (· < 1000) = true := by decide +kernel
theorem Stt.line {line : List Nat} {due : List (List Nat)} {k : Nat} (s : Stt line due k) : Lx line (some due) := by
  have h : aft due [] = true := by
    unfold aft
    split
    · rfl
    · split <;> rfl
  have := s.inv [] (some []) h .nil
  simpa using this
theorem Stt.bad {line : List Nat} {due : List (List Nat)} {k : Nat} (s : Stt line due k) {w : List Nat} (hw : w ∈ wrongs) : Lx (line ++ 32 :: w) none :=
  s.inv (32 :: w) none (aft32 _ _) (wrong_lx w hw)
theorem shp_strs {ws : List (List Nat)} (h : ∀ w ∈ ws, w.all (· < 1000) = true) : (Dt.lst (ws.map .str)).shp = true := by
  have h1 : sgns (ws.map .str) = true := by
    induction ws with
    | nil => rfl
    | cons w ws ih =>
      have hw := h w (by simp)
      rw [List.map_cons, sgns, ih (fun v hv => h v (by simp [hv])), Bool.and_true, Dt.sgn]
      rw [List.all_eq_true] at hw ⊢
      intro x hx
      have := hw x hx
      simp at this ⊢
      omega
  have h2 : deps (ws.map .str) = 0 := by
    clear h h1
    induction ws with
    | nil => rfl
    | cons w ws ih => simp [deps, Dt.dep, ih]
  simp [Dt.shp, Dt.sgn, Dt.dep, h1, h2]
theorem eqD_strs (ws : List (List Nat)) : eqDs (ws.map .str) (ws.map .str) = true := by
  induction ws with
  | nil => rfl
  | cons w ws ih => simp [eqDs, eqD, ih]
theorem wo0 : m_words_of [.str []] = some (.lst []) := words_of_ok .nil (by decide) (by decide)
theorem wo3 : m_words_of [.str [32, 32, 32]] = some (.lst []) := words_of_ok (.sp (.sp (.sp .nil))) (by decide) (by decide)
theorem szs2 : ∀ s ∈ ([8, 4] : List Int), szOk s = true := by decide
theorem law_true (ns : List Int) : m_law [.lst (ns.map .int)] = some (.bl true) := by
  obtain ⟨line, due, x5, x6, x7, s, h5, h7, hl⟩ := loop12 ns
  have hdue : ∀ w ∈ due, w.all (· < 1000) = true := fun w hw => (word_len w (s.mem w hw)).2
  have hll := s.ll
  have hw := words_of_ok s.line (by omega) s.sm
  have a0 : b_law_0 (entE 18 [.lst (ns.map .int)]) = some (.nx [some (.sh (.lst (ns.map .int))), some (.lst (gws.map .str)), none, none, none, none, none, none, none, none, none, none, none, none, none, none, none, none]) := by kernel_rfl
  have a1 : b_law_1 [some (.sh (.lst (ns.map .int))), some (.lst (gws.map .str)), none, none, none, none, none, none, none, none, none, none, none, none, none, none, none, none] = some (.nx [some (.sh (.lst (ns.map .int))), some (.lst (gws.map .str)), some (.lst (mks.map .str)), none, none, none, none, none, none, none, none, none, none, none, none, none, none, none]) := by kernel_rfl
  have a2 : b_law_2 [some (.sh (.lst (ns.map .int))), some (.lst (gws.map .str)), some (.lst (mks.map .str)), none, none, none, none, none, none, none, none, none, none, none, none, none, none, none] = some (.nx (lwE ns [] [] none none none)) := by kernel_rfl
  have a4 : b_law_4 (lwE ns line due x5 x6 x7) = some (.nx (lwE ns line due x5 x6 x7)) := by
    have c1 : fB (fOpV gNe (fCall m_words_of (qCons (fVar 3) qNil)) 4) (lwE ns line due x5 x6 x7) = some (false, lwE ns line due x5 x6 x7) := by
      have sclb : ∀ b, scl (.sh (.bl b)) = true := fun b => rfl
      simp only [fB, fOpV, pur, fCall, qCons, qNil, fVar, frz, lwE, hw, vwE, gNe, shp_strs hdue, eqD, eqD_strs, sclb, List.getElem?_cons_zero, List.getElem?_cons_succ, Bool.and_self, if_true, Bool.not_true]
    have c2 : fB (fOp gNe (fCall m_words_of (qCons (fC (.str [])) qNil)) (fLst qNil)) (lwE ns line due x5 x6 x7) = some (false, lwE ns line due x5 x6 x7) := by
      simp [fB, fOp, pur, fCall, qCons, qNil, fC, frz, wo0, fLst, gNe, Dt.shp, Dt.sgn, Dt.dep, sgns, deps, eqD, eqDs]
    have c3 : fB (fOp gNe (fCall m_words_of (qCons (fC (.str [32, 32, 32])) qNil)) (fLst qNil)) (lwE ns line due x5 x6 x7) = some (false, lwE ns line due x5 x6 x7) := by
      simp [fB, fOp, pur, fCall, qCons, qNil, fC, frz, wo3, fLst, gNe, Dt.shp, Dt.sgn, Dt.dep, sgns, deps, eqD, eqDs]
    simp only [b_law_4, sIf, fOr, c1, c2, c3, Bool.false_eq_true, if_false, sNx]
  obtain ⟨ds, hR, hd⟩ := draw_sem ns [8, 4] 20 szs2 (by decide)
  obtain ⟨d0, d1, rfl, h0, h1⟩ := len2 hR
  simp only [List.map_cons, List.map_nil] at hd
  have a13 : ∀ y8 y9 y10 : Option Ow, b_law_13 [some (.sh (.lst (ns.map .int))), some (.lst (gws.map .str)), some (.lst (mks.map .str)), some (.sh (.str line)), some (.lst (due.map .str)), x5, x6, x7, y8, y9, y10, none, none, none, none, none, none, none] = some (.nx [some (.sh (.lst (ns.map .int))), some (.lst (gws.map .str)), some (.lst (mks.map .str)), some (.sh (.str line)), some (.lst (due.map .str)), x5, some (.sh (.lst [.int d0, .int d1])), x7, y8, y9, y10, none, none, none, none, none, none, none]) := fun y8 y9 y10 => by
    have hd' : m__law_draw [.lst (ns.map .int), .int 20, .lst [.int 8, .int 4]] = some (.lst [.int d0, .int d1]) := hd
    simp [b_law_13, sSet, fCall, qCons, qNil, pur, fVar, frz, fC, fLst, hd', setE]
  obtain ⟨wr, hwr, e14⟩ := t14 (some (.sh (.lst (ns.map .int)))) (some (.lst (gws.map .str))) (some (.lst (mks.map .str))) (some (.sh (.str line))) (some (.lst (due.map .str))) x5 x7 (fz (cst b_law_5 8)) (cst s9 9) (fz (cst b_law_11 10)) (d0 := d0) (d1 := d1) h0
  have hws := wrongs_sm wr hwr
  have hno : m_words_of [.str (line ++ 32 :: wr)] = some .non := words_of_no (s.bad hwr) (by simp; omega) (by
    rw [List.all_append, s.sm, List.all_cons, hws.2]
    rfl)
  have a15 : ∀ y8 y9 y10 : Option Ow, b_law_15 [some (.sh (.lst (ns.map .int))), some (.lst (gws.map .str)), some (.lst (mks.map .str)), some (.sh (.str line)), some (.lst (due.map .str)), x5, some (.sh (.lst [.int d0, .int d1])), x7, y8, y9, y10, some (.sh (.str wr)), none, none, none, none, none, none] = some (.nx [some (.sh (.lst (ns.map .int))), some (.lst (gws.map .str)), some (.lst (mks.map .str)), some (.sh (.str line)), some (.lst (due.map .str)), x5, some (.sh (.lst [.int d0, .int d1])), x7, y8, y9, y10, some (.sh (.str wr)), none, none, none, none, none, none]) := fun y8 y9 y10 => by
    have hz1 : Nat.ble (line.length + 1) 16777216 = true := Nat.ble_eq_true_of_le (by omega)
    have hz2 : Nat.ble (line.length + 1 + wr.length) 16777216 = true := Nat.ble_eq_true_of_le (by omega)
    simp [b_law_15, sIf, fB, fOp, fCall, qCons, qNil, pur, fVar, frz, fC, gAdd, hz1, hz2, hno, gIsN, sNx]
  show runB b_law (entE 18 [.lst (ns.map .int)]) = _
  unfold runB b_law
  rw [sSeq, a0]
  simp only
  rw [sSeq, a1]
  simp only
  rw [sSeq, a2]
  simp only
  rw [sSeq, hl]
  simp only
  rw [sSeq, a4]
  simp only
  unfold lwE
  rw [sSeq, t5]
  simp only
  rw [sSeq, t6]
  simp only
  have r9 : ∀ (f : Fs) (e e' : DEnv), s9 e = some (.nx e') → sSeq b_law_7 (sSeq b_law_8 (sSeq b_law_9 f)) e = f e' := fun f e e' h => by
    unfold s9 sSeq at h
    unfold sSeq
    revert h
    cases b_law_7 e with
    | none => exact fun h => nomatch h
    | some o => cases o with
      | nx e1 =>
        simp only
        cases b_law_8 e1 with
        | none => exact fun h => nomatch h
        | some o => cases o with
          | nx e2 =>
            simp only
            intro h
            rw [h]
          | rt d e2 => exact fun h => nomatch h
          | bk e2 => exact fun h => nomatch h
          | ct e2 => exact fun h => nomatch h
      | rt d e2 => exact fun h => nomatch h
      | bk e2 => exact fun h => nomatch h
      | ct e2 => exact fun h => nomatch h
  rw [r9 _ _ _ (t9 _ _ _ _ _ _ _ _ _)]
  rw [sSeq, t10 _ _ _ _ _ _ _ _ _ h7]
  simp only
  rw [sSeq, t11]
  simp only
  rw [sSeq, t12]
  simp only
  rw [sSeq, a13]
  simp only
  rw [sSeq, e14]
  simp only
  rw [sSeq, a15]
  simp only
  have r19 : ∀ (f : Fs) (e e' : DEnv), s19 e = some (.nx e') → sSeq b_law_16 (sSeq b_law_17 (sSeq b_law_18 (sSeq b_law_19 f))) e = f e' := fun f e e' h => by
    unfold s19 at h
    have k1 : ∀ (a b c : Fs) (e : DEnv), sSeq (sSeq a b) c e = sSeq a (sSeq b c) e := fun a b c e => by
      unfold sSeq
      cases a e with
      | none => rfl
      | some o => cases o <;> rfl
    have k2 : sSeq b_law_16 (sSeq b_law_17 (sSeq b_law_18 (sSeq b_law_19 f))) e = sSeq (sSeq b_law_16 (sSeq b_law_17 (sSeq b_law_18 b_law_19))) f e := by
      rw [k1]
      have e1 : sSeq (sSeq b_law_17 (sSeq b_law_18 b_law_19)) f = sSeq b_law_17 (sSeq b_law_18 (sSeq b_law_19 f)) := by
        funext e
        rw [k1]
        have e2 : sSeq (sSeq b_law_18 b_law_19) f = sSeq b_law_18 (sSeq b_law_19 f) := by
          funext e
          rw [k1]
        rw [e2]
      rw [e1]
    rw [k2, sSeq, h]
  rw [r19 _ _ _ (t19 _ _ _ _ _ _ _ _ _ _ _ _)]
  rw [sSeq, t20]
  simp only
  exact t22 _ _ _ _ _ _ _ _ _ _ _ _ h5 h1
end K00
set_option Elab.async false
set_option linter.all false
set_option maxRecDepth 100000
namespace K00
open PySem PySem.Spec PyProof.Rows L2 DL He
def dvl : Dt → List Dv
  | .tup ds => ds.map fun d => match d with
    | .str s => .str ⟨s.toArray⟩
    | _ => .non
  | _ => []
def mkD (x : Str) (s : Stmt) : DefD := { at_ := (x, none), name := x, qual := x, params := defArgs s, body := defBody s, scope := defScope s }

def facts : List He.Fa := [.glo "is_name", .glo "is_number", .glo "words_of", .glo "can_be_read", .glo "lines_of", .glo "_law_cell", .glo "_law_draw", .glo "law", .glo "CLOSED", .glo "MARKS", .glo "EACH", .free "len", .free "all", .free "max", .free "range", .free "any", .int "NAME" 12, .int "WORDS" 300, .int "DEEP" 80, .str "FIRST" ⟨z_FIRST.toArray⟩, .str "SIGNS" ⟨z_SIGNS.toArray⟩, .str "DIGITS" ⟨z_DIGITS.toArray⟩]
def defns : List DefD := [mkD "is_name" s_is_name, mkD "is_number" s_is_number, mkD "words_of" s_words_of, mkD "can_be_read" s_can_be_read, mkD "lines_of" s_lines_of, mkD "_law_cell" s__law_cell, mkD "_law_draw" s__law_draw, mkD "law" s_law]
def tfs : List Defn := [("is_name", none), ("is_number", none)]
def exx (K : PySem.W.Frag) : Bool := tupB K "CLOSED" (dvl d_CLOSED) && tupB K "MARKS" (dvl d_MARKS) && tupB K "EACH" (dvl d_EACH)
def noT (H : Hp) : Hp := fun a => match H a with
  | some (.tbl _) => none
  | o => o
theorem noT_gr (H : Hp) : Gr (noT H) H := fun a o e => by
  unfold noT at e
  split at e
  · cases e
  · exact e
theorem noT_tbl (H : Hp) (a : Addr) (ps : Array Value) : noT H a ≠ some (.tbl ps) := fun e => by
  unfold noT at e
  split at e
  · cases e
  · rename_i h
    exact h ps e
theorem noT_sql {K : PySem.W.Frag} {H : Hp} {a : Addr} {xs : List V} (h : SqL K H a xs) : SqL K (noT H) a xs := by
  rcases h with h | h
  · rcases h with h | ⟨o, h⟩
    · refine .inl (.inl ?_)
      unfold noT
      rw [h]
    · refine .inl (.inr ⟨o, ?_⟩)
      unfold noT
      rw [h]
  · exact .inr h
theorem rps_ints {K : PySem.W.Frag} {H : Hp} : ∀ ns : List Int, Rps K H (ns.map V.int) (ns.map .int)
  | [] => .nil
  | n :: ns => .cons (.int n) (rps_ints ns)
theorem rp_dvl {K : PySem.W.Frag} {x : Str} {ds : List Dt} (hs : ∀ d ∈ ds, ∃ s, d = .str s) (h : tupB K x (dvl (.tup ds)) = true) (H : Hp) : Rp K H (.ref (ga K x)) (.tup ds) := by
  refine .tup (tupB_ok h H) ?_
  unfold dvl
  rw [List.map_map]
  clear h
  induction ds with
  | nil => exact .nil
  | cons d ds ih =>
    obtain ⟨s, rfl⟩ := hs d (by simp)
    exact .cons (.str s) (ih fun e he => hs e (by simp [he]))
def allStr : Dt → Bool
  | .tup ds => ds.all fun d => match d with
    | .str _ => true
    | _ => false
  | _ => false
theorem rp_tupS {K : PySem.W.Frag} {x : Str} {d : Dt} (hs : allStr d = true) (h : tupB K x (dvl d) = true) (H : Hp) : Rp K H (.ref (ga K x)) d := by
  cases d with
  | tup ds =>
    refine rp_dvl (fun e he => ?_) h H
    have := List.all_eq_true.mp hs e he
    cases e with
    | str s => exact ⟨s, rfl⟩
    | _ => cases this
  | _ => cases hs
theorem FunD.toFun {K : PySem.W.Frag} {x : Str} {s : Stmt} {f : Addr} {fd : FuncData} (F : FunD K x x (defArgs s) (defBody s) (defScope s) [] [] f fd) : L2.Fun K x x s f fd := by
  obtain ⟨oc, od, dV, kV, doc, pm, an, cdv, ct, osl, h1, h2, h3, h4, h5⟩ := F.ex
  rcases h4 with ⟨_, rfl⟩ | ⟨e, _⟩
  · exact ⟨⟨oc, od, kV, doc, pm, an, cdv, ct, osl, h1, h2, h3⟩, F.kp⟩
  · exact absurd rfl e
theorem fun_code {K : PySem.W.Frag} {x : Str} {s : Stmt} {fd : FuncData} (F : L2.Fun K x x s (ga K x) fd) : fd.code = .ref (cT K (x, none)).1 := by
  obtain ⟨oc, od, kV, doc, pm, an, cdv, ct, osl, rfl, lk, hcd⟩ := F.ex
  obtain ⟨c, rfl⟩ := codeIn_ref hcd
  have := codeOf_eq (K := K) (p := (x, none)) lk rfl
  show Value.ref c = .ref (codeOf K (x, none))
  rw [this]
theorem tin {K : PySem.W.Frag} {p : Defn} (h : p ∈ tfs) : cT K p ∈ tfs.map (cT K) := List.mem_map.mpr ⟨p, h, rfl⟩
theorem hin {K : PySem.W.Frag} {p : Defn} (h : p ∈ tfs) : (cT K p).2 ∈ (tfs.map (cT K)).map (·.2) := List.mem_map.mpr ⟨_, tin h, rfl⟩
theorem tab_of {base : Heap} {mg : Str → Option Value} {c p : Addr} (h : LamX.TabB base mg c p) : GxR.TabB base mg c p := ⟨h.code, h.bm, h.gP⟩

set_option maxHeartbeats 0 in
theorem law_at {w : World} {mg : Str → Option Value} {fa : Addr} {h : Heap} (Y : ∃ K : PySem.W.Frag, K.In h ∧ SaysX facts defns [] tfs exx w h K) (N : h.Ns mainGlobals mg) (e : mg "law" = some (.ref fa)) : ∃ K : PySem.W.Frag, K.In h ∧ LamX.LawAtS PySem.Challenge.rw_foundry_k00_words_of_lines w K CX0 4 63 "script" mg fa h := by
  obtain ⟨K, KX, Y⟩ := Y
  refine ⟨K, KX, ?_⟩
  have D := Y.t.d

  obtain ⟨fd_is_name, D_is_name⟩ := D.def_ 0 (d := mkD "is_name" s_is_name)
  have F_is_name : L2.Fun K "is_name" "is_name" s_is_name (ga K "is_name") fd_is_name := FunD.toFun D_is_name
  have B_is_name : Binds K fd_is_name ["text"] [] := F_is_name.binds fun _ _ _ _ _ _ us hl => match us, hl with | [_], _ => rfl
  obtain ⟨fd_is_number, D_is_number⟩ := D.def_ 1 (d := mkD "is_number" s_is_number)
  have F_is_number : L2.Fun K "is_number" "is_number" s_is_number (ga K "is_number") fd_is_number := FunD.toFun D_is_number
  have B_is_number : Binds K fd_is_number ["text"] [] := F_is_number.binds fun _ _ _ _ _ _ us hl => match us, hl with | [_], _ => rfl
  obtain ⟨fd_words_of, D_words_of⟩ := D.def_ 2 (d := mkD "words_of" s_words_of)
  have F_words_of : L2.Fun K "words_of" "words_of" s_words_of (ga K "words_of") fd_words_of := FunD.toFun D_words_of
  have B_words_of : Binds K fd_words_of ["line"] [] := F_words_of.binds fun _ _ _ _ _ _ us hl => match us, hl with | [_], _ => rfl
  obtain ⟨fd_can_be_read, D_can_be_read⟩ := D.def_ 3 (d := mkD "can_be_read" s_can_be_read)
  have F_can_be_read : L2.Fun K "can_be_read" "can_be_read" s_can_be_read (ga K "can_be_read") fd_can_be_read := FunD.toFun D_can_be_read
  have B_can_be_read : Binds K fd_can_be_read ["words"] [] := F_can_be_read.binds fun _ _ _ _ _ _ us hl => match us, hl with | [_], _ => rfl
  obtain ⟨fd_lines_of, D_lines_of⟩ := D.def_ 4 (d := mkD "lines_of" s_lines_of)
  have F_lines_of : L2.Fun K "lines_of" "lines_of" s_lines_of (ga K "lines_of") fd_lines_of := FunD.toFun D_lines_of
  have B_lines_of : Binds K fd_lines_of ["text"] [] := F_lines_of.binds fun _ _ _ _ _ _ us hl => match us, hl with | [_], _ => rfl
  obtain ⟨fd__law_cell, D__law_cell⟩ := D.def_ 5 (d := mkD "_law_cell" s__law_cell)
  have F__law_cell : L2.Fun K "_law_cell" "_law_cell" s__law_cell (ga K "_law_cell") fd__law_cell := FunD.toFun D__law_cell
  have B__law_cell : Binds K fd__law_cell ["script", "k"] [] := F__law_cell.binds fun _ _ _ _ _ _ us hl => match us, hl with | [_, _], _ => rfl
  obtain ⟨fd__law_draw, D__law_draw⟩ := D.def_ 6 (d := mkD "_law_draw" s__law_draw)
  have F__law_draw : L2.Fun K "_law_draw" "_law_draw" s__law_draw (ga K "_law_draw") fd__law_draw := FunD.toFun D__law_draw
  have B__law_draw : Binds K fd__law_draw ["script", "k", "sizes"] [] := F__law_draw.binds fun _ _ _ _ _ _ us hl => match us, hl with | [_, _, _], _ => rfl
  obtain ⟨fd_law, D_law⟩ := D.def_ 7 (d := mkD "law" s_law)
  have F_law : L2.Fun K "law" "law" s_law (ga K "law") fd_law := FunD.toFun D_law
  have B_law : Binds K fd_law ["script"] [] := F_law.binds fun _ _ _ _ _ _ us hl => match us, hl with | [_], _ => rfl
  have g_is_name : mg "is_name" = some (.ref (ga K "is_name")) := glo_ok KX N (D.fact 0 (f := .glo "is_name"))
  have g_is_number : mg "is_number" = some (.ref (ga K "is_number")) := glo_ok KX N (D.fact 1 (f := .glo "is_number"))
  have g_words_of : mg "words_of" = some (.ref (ga K "words_of")) := glo_ok KX N (D.fact 2 (f := .glo "words_of"))
  have g_can_be_read : mg "can_be_read" = some (.ref (ga K "can_be_read")) := glo_ok KX N (D.fact 3 (f := .glo "can_be_read"))
  have g_lines_of : mg "lines_of" = some (.ref (ga K "lines_of")) := glo_ok KX N (D.fact 4 (f := .glo "lines_of"))
  have g__law_cell : mg "_law_cell" = some (.ref (ga K "_law_cell")) := glo_ok KX N (D.fact 5 (f := .glo "_law_cell"))
  have g__law_draw : mg "_law_draw" = some (.ref (ga K "_law_draw")) := glo_ok KX N (D.fact 6 (f := .glo "_law_draw"))
  have g_law : mg "law" = some (.ref (ga K "law")) := glo_ok KX N (D.fact 7 (f := .glo "law"))
  have g_CLOSED : mg "CLOSED" = some (.ref (ga K "CLOSED")) := glo_ok KX N (D.fact 8 (f := .glo "CLOSED"))
  have g_MARKS : mg "MARKS" = some (.ref (ga K "MARKS")) := glo_ok KX N (D.fact 9 (f := .glo "MARKS"))
  have g_EACH : mg "EACH" = some (.ref (ga K "EACH")) := glo_ok KX N (D.fact 10 (f := .glo "EACH"))
  have f_len : mg "len" = none := free_ok KX N (D.fact 11 (f := .free "len"))
  have f_all : mg "all" = none := free_ok KX N (D.fact 12 (f := .free "all"))
  have f_max : mg "max" = none := free_ok KX N (D.fact 13 (f := .free "max"))
  have f_range : mg "range" = none := free_ok KX N (D.fact 14 (f := .free "range"))
  have f_any : mg "any" = none := free_ok KX N (D.fact 15 (f := .free "any"))
  obtain ⟨t_NAME, g_NAME⟩ := int_ok KX N (D.fact 16 (f := .int "NAME" 12))
  obtain ⟨t_WORDS, g_WORDS⟩ := int_ok KX N (D.fact 17 (f := .int "WORDS" 300))
  obtain ⟨t_DEEP, g_DEEP⟩ := int_ok KX N (D.fact 18 (f := .int "DEEP" 80))
  obtain ⟨t_FIRST, g_FIRST⟩ := str_ok KX N (D.fact 19 (f := .str "FIRST" ⟨z_FIRST.toArray⟩))
  obtain ⟨t_SIGNS, g_SIGNS⟩ := str_ok KX N (D.fact 20 (f := .str "SIGNS" ⟨z_SIGNS.toArray⟩))
  obtain ⟨t_DIGITS, g_DIGITS⟩ := str_ok KX N (D.fact 21 (f := .str "DIGITS" ⟨z_DIGITS.toArray⟩))
  have M0 := Y.more
  simp only [exx, Bool.and_eq_true] at M0
  have r_CLOSED : ∀ H : Hp, Rp K H (.ref (ga K "CLOSED")) d_CLOSED := rp_tupS (by decide +kernel) M0.1.1
  have r_MARKS : ∀ H : Hp, Rp K H (.ref (ga K "MARKS")) d_MARKS := rp_tupS (by decide +kernel) M0.1.2
  have r_EACH : ∀ H : Hp, Rp K H (.ref (ga K "EACH")) d_EACH := rp_tupS (by decide +kernel) M0.2
  have ee : fa = ga K "law" := by rw [g_law] at e; simpa using e.symm
  subst ee
  refine ⟨fd_law, tfs.map (cT K), spD K ((tfs.map (cT K)).map (·.2)) m_law, fun p hp => ?_, fun p hp => ?_, fun p hp => ?_, fun s u => FunD.bindsA (ps := ["script"]) D_law (fun _ _ _ _ _ _ us hl => match us, hl with | [_], _ => rfl) s [u] rfl, fun H a ns hlen hbits hT hS => ?_, fun base KB NB TB => ?_⟩
  · obtain ⟨q, hq, rfl⟩ := List.mem_map.mp hp
    exact Y.empty q hq
  · obtain ⟨q, hq, rfl⟩ := List.mem_map.mp hp
    exact Y.out q hq
  · obtain ⟨q, hq, rfl⟩ := List.mem_map.mp hp
    exact PySem.W.codeHd_of_K KX (Y.hd q hq)
  · refine ⟨noT H, [.lst (ns.map .int)], .bl true, noT_gr H, noT_tbl H, fun p hp => ?_, .cons (.lst (noT_sql hS) (rps_ints ns)) .nil, law_true ns, fun v H' B' _ _ r => ?_⟩
    · obtain ⟨q0, hq0, rfl⟩ := List.mem_map.mp hp
      obtain ⟨q, hq, rfl⟩ := List.mem_map.mp hq0
      exact ⟨#[], hT _ (List.mem_map.mpr ⟨q, hq, rfl⟩), trivial⟩
    · cases r
      rfl
  · have G_is_name := ok_is_name (P := PySem.Challenge.rw_foundry_k00_words_of_lines.prog) (w := w) (mg := mg) (base := base) (T := (tfs.map (cT K)).map (·.2)) F_is_name g_NAME g_CLOSED r_CLOSED g_FIRST g_SIGNS f_len f_all NB (fun_code F_is_name) (tab_of (TB (cT K ("is_name", none)) (tin (by decide)))) (hin (p := ("is_name", none)) (by decide))
    have G_is_number := ok_is_number (P := PySem.Challenge.rw_foundry_k00_words_of_lines.prog) (w := w) (mg := mg) (base := base) (T := (tfs.map (cT K)).map (·.2)) F_is_number g_DIGITS f_len f_all NB (fun_code F_is_number) (tab_of (TB (cT K ("is_number", none)) (tin (by decide)))) (hin (p := ("is_number", none)) (by decide))
    have G_words_of := ok_words_of (P := PySem.Challenge.rw_foundry_k00_words_of_lines.prog) (w := w) (mg := mg) (base := base) (T := (tfs.map (cT K)).map (·.2)) F_words_of G_is_name g_is_name F_is_name.kp B_is_name G_is_number g_is_number F_is_number.kp B_is_number g_SIGNS g_CLOSED r_CLOSED g_MARKS r_MARKS f_len
    have G_can_be_read := ok_can_be_read (P := PySem.Challenge.rw_foundry_k00_words_of_lines.prog) (w := w) (mg := mg) (base := base) (T := (tfs.map (cT K)).map (·.2)) F_can_be_read g_EACH r_EACH g_WORDS g_DEEP f_max f_len
    have G_lines_of := ok_lines_of (P := PySem.Challenge.rw_foundry_k00_words_of_lines.prog) (w := w) (mg := mg) (base := base) (T := (tfs.map (cT K)).map (·.2)) F_lines_of
    have G__law_cell := ok__law_cell (P := PySem.Challenge.rw_foundry_k00_words_of_lines.prog) (w := w) (mg := mg) (base := base) (T := (tfs.map (cT K)).map (·.2)) F__law_cell f_len
    have G__law_draw := ok__law_draw (P := PySem.Challenge.rw_foundry_k00_words_of_lines.prog) (w := w) (mg := mg) (base := base) (T := (tfs.map (cT K)).map (·.2)) F__law_draw G__law_cell g__law_cell F__law_cell.kp B__law_cell f_range f_len
    exact ok_law (T := (tfs.map (cT K)).map (·.2)) F_law G__law_draw g__law_draw F__law_draw.kp B__law_draw G_words_of g_words_of F_words_of.kp B_words_of G_is_name g_is_name F_is_name.kp B_is_name G_is_number g_is_number F_is_number.kp B_is_number G_can_be_read g_can_be_read F_can_be_read.kp B_can_be_read G_lines_of g_lines_of F_lines_of.kp B_lines_of f_range f_all f_any
end K00
set_option maxHeartbeats 0 in
theorem PySem.Challenge.cw_foundry_k00_words_of_lines_holds : PySem.Challenge.rw_foundry_k00_words_of_lines.Holds := by
  w_on; o_law; o_head (He.hookX 5 K00.facts K00.defns [] K00.tfs K00.exx); (case hw => w_witness2)
  exact LamX.walk_ofTsE (n := 63) (k := 4) rfl (by decide) rfl ⟨rfl, by decide, by decide⟩ (fun w mg fa h Y N e => K00.law_at Y N e) fun w H s e s' h => h
