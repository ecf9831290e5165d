/- Parts of the proof of FnExactDeskOk: the logic of values, plain facts, and what the functions compute. -/
import Derived.Test.YtakonmnoakgipaaVB
set_option linter.unusedVariables false
set_option linter.unusedSimpArgs false
set_option maxRecDepth 20000
namespace Go.Vs
open Go Go.RowKit Go.Proofs
open Classical
theorem c_spec_LatticeOk (u : (List (List Int)))  (h : Heap) : FnRes Try.prog G0 116 [.v (.sl (.sl (.int .i64))) u] h (.v .bool (decide (IsLat u))) h := by
  refine FnRes.intro (N := 34) (rs := [.tmp 2]) [some .bool] hL G0up Try.func116 rfl rfl rfl rfl rfl ?_
  refine W.lenV 0 rfl (fun hl0 => ?_)
  unfold lenMax at hl0
  refine W.seq ?_
  refine W.region ?_
  refine W.op rfl (opAssign rfl).sem rfl ?_
  refine W.end ?_
  refine W.seq ?_
  refine W.seq ?_
  refine W.region ?_
  refine W.op rfl (opAssign rfl).sem rfl ?_
  refine W.end ?_
  refine W.block ?_
  refine W.lp G0up [(0, _)] [] (fun (a : Int) => [(3, .v (.int .i64) a)]) (fun (a : Int) => []) (fun (a : Int) => h) (fun (a : Int) => ((u.length : Int) - a).toNat) (fun (a : Int) => (0 ≤ a) ∧ (a ≤ (u.length : Int)) ∧ (∀ a_ : Int, 0 ≤ a_ → a_ < a → ∀ b : Int, 0 ≤ b → b < a_ → 0 ≤ meetV u a_ b ∧ 0 ≤ joinV u a_ b)) _ ?_ (eac rfl (eac rfl ean)) han (fun _ => rfl) rfl ?_
  · exact ⟨(by omega), (by omega), (by intro a_; omega)⟩
  rintro a ⟨ha0, ha1, hA⟩
  change W _ _ _ _ _ _ (envOf [(0, _), (3, .v (.int .i64) a)]) (hp (pushH (h)) [])
  refine W.lenV 0 rfl (fun hl_0 => ?_)
  unfold lenMax at hl_0
  try simp only [gi_eq, Er_eq, E_eq] at hl_0
  refine W.seq ?_
  refine W.seq ?_
  refine W.jr [(0, _), (3, _)] [] (fun (q12 : Bool) => [(12, .v .bool q12)]) (fun (q12 : Bool) => (q12 = true ↔ (a < ((u.length : Int))) ∧ ((IsOrd u)))) (eac rfl (eac rfl ean)) han (fun _ => rfl) ?_ ?_
  · skip
    refine W.region ?_
    refine W.op rfl (opMove rfl).sem rfl ?_
    refine W.op rfl (opMove rfl).sem rfl ?_
    refine W.op rfl (opLen hL rfl rfl).sem rfl ?_
    refine W.opP rfl (opLss hL rfl rfl).sem rfl (fun c1 => ?_) (fun c1 => ?_)
    · skip
      try simp only [gi_eq, Er_eq, E_eq] at c1
      refine W.op rfl (opMove rfl).sem rfl ?_
      refine W.opG rfl rfl rfl rfl (opMove rfl).sem rfl ?_
      refine W.opGP rfl rfl rfl rfl (opCallR [some (.sl (.sl (.int .i64)))] rfl (.cons .v .nil) (c_spec_OrderOk _ _)) rfl (fun c2 => ?_) (fun c2 => ?_)
      · skip
        try simp only [gi_eq, Er_eq, E_eq] at c2
        refine W.op rfl (opPick rfl).sem rfl ?_
        refine W.end ?_
        refine W.jx G0up _ (eac rfl (eac rfl (eac rfl ean))) han (fun _ => rfl) rfl ?_
        · clear h; (try simp only [gi_eq, Er_eq, E_eq]); grind
      · skip
        try simp only [gi_eq, Er_eq, E_eq] at c2
        refine W.op rfl (opPick rfl).sem rfl ?_
        refine W.end ?_
        refine W.jx G0up _ (eac rfl (eac rfl (eac rfl ean))) han (fun _ => rfl) rfl ?_
        · clear h; (try simp only [gi_eq, Er_eq, E_eq]); grind
    · skip
      try simp only [gi_eq, Er_eq, E_eq] at c1
      refine W.op rfl (opMove rfl).sem rfl ?_
      refine W.off rfl rfl rfl rfl rfl rfl ?_
      refine W.off rfl rfl rfl rfl rfl rfl ?_
      refine W.op rfl (opPick rfl).sem rfl ?_
      refine W.end ?_
      refine W.jx G0up _ (eac rfl (eac rfl (eac rfl ean))) han (fun _ => rfl) rfl ?_
      · clear h; (try simp only [gi_eq, Er_eq, E_eq]); grind
  · rintro q12 J12
    try simp only [gi_eq, Er_eq, E_eq] at J12
    change W _ _ _ _ _ _ (envOf [(0, _), (3, _), (12, .v .bool q12)]) (hp (pushH (h)) [])
    refine W.condJ rfl J12 (fun c3 => ?_) (fun c3 => ?_)
    · skip
      try simp only [gi_eq, Er_eq, E_eq] at c3
      refine W.skip ?_
      refine W.seq ?_
      refine W.block ?_
      refine W.seq ?_
      refine W.region ?_
      refine W.op rfl (opAssign rfl).sem rfl ?_
      refine W.end ?_
      refine W.block ?_
      refine W.lp G0up [(0, _), (3, _)] [] (fun (b : Int) => [(4, .v (.int .i64) b)]) (fun (b : Int) => []) (fun (b : Int) => h) (fun (b : Int) => (a - b).toNat) (fun (b : Int) => (0 ≤ b) ∧ (b ≤ a) ∧ (∀ b_ : Int, 0 ≤ b_ → b_ < b → 0 ≤ meetV u a b_ ∧ 0 ≤ joinV u a b_)) _ ?_ (eac rfl (eac rfl (eac rfl ean))) han (fun _ => rfl) rfl ?_
      · exact ⟨(by omega), (by omega), (by intro b_; omega)⟩
      rintro b ⟨hb0, hb1, hB⟩
      change W _ _ _ _ _ _ (envOf [(0, _), (3, _), (4, .v (.int .i64) b)]) (hp (pushH (h)) [])
      refine W.seq ?_
      refine W.seq ?_
      refine W.region ?_
      refine W.op rfl (opMove rfl).sem rfl ?_
      refine W.op rfl (opMove rfl).sem rfl ?_
      refine W.opP rfl (opLss hL rfl rfl).sem rfl (fun c4 => ?_) (fun c4 => ?_)
      · skip
        try simp only [gi_eq, Er_eq, E_eq] at c4
        refine W.end ?_
        refine W.condT rfl ?_
        refine W.skip ?_
        refine W.seq ?_
        refine W.block ?_
        refine W.seq ?_
        refine W.jr [(0, _), (3, _), (4, _)] [] (fun (q31 : Bool) => [(31, .v .bool q31)]) (fun (q31 : Bool) => (q31 = true ↔ ((meetV u a b) < 0) ∨ ((joinV u a b) < 0))) (eac rfl (eac rfl (eac rfl ean))) han (fun _ => rfl) ?_ ?_
        · skip
          refine W.region ?_
          refine W.op rfl (opMove rfl).sem rfl ?_
          refine W.op rfl (opMove rfl).sem rfl ?_
          refine W.op rfl (opMove rfl).sem rfl ?_
          refine W.op rfl (opCallR [some (.sl (.sl (.int .i64))), some (.int .i64), some (.int .i64)] rfl (.cons .v (.cons .v (.cons .v .nil))) (c_spec_l1Meet _ _ _ ?_ ?_ ?_ _)) rfl ?_
          · first | assumption | omega | ((try simp only [gi_eq, Er_eq, E_eq]); first | omega | grind)
          · first | assumption | omega | ((try simp only [gi_eq, Er_eq, E_eq]); first | omega | grind)
          · first | assumption | omega | ((try simp only [gi_eq, Er_eq, E_eq]); first | omega | grind)
          refine W.opP rfl (opLss hL rfl rfl).sem rfl (fun c5 => ?_) (fun c5 => ?_)
          · skip
            try simp only [gi_eq, Er_eq, E_eq] at c5
            refine W.op rfl (opMove rfl).sem rfl ?_
            refine W.off rfl rfl rfl rfl rfl rfl ?_
            refine W.off rfl rfl rfl rfl rfl rfl ?_
            refine W.off rfl rfl rfl rfl rfl rfl ?_
            refine W.off rfl rfl rfl rfl rfl rfl ?_
            refine W.off rfl rfl rfl rfl rfl rfl ?_
            refine W.op rfl (opPick rfl).sem rfl ?_
            refine W.end ?_
            refine W.jx G0up _ (eac rfl (eac rfl (eac rfl (eac rfl ean)))) han (fun _ => rfl) rfl ?_
            · clear h; (try simp only [gi_eq, Er_eq, E_eq]); grind
          · skip
            try simp only [gi_eq, Er_eq, E_eq] at c5
            refine W.op rfl (opMove rfl).sem rfl ?_
            refine W.opG rfl rfl rfl rfl (opMove rfl).sem rfl ?_
            refine W.opG rfl rfl rfl rfl (opMove rfl).sem rfl ?_
            refine W.opG rfl rfl rfl rfl (opMove rfl).sem rfl ?_
            refine W.opG rfl rfl rfl rfl (opCallR [some (.sl (.sl (.int .i64))), some (.int .i64), some (.int .i64)] rfl (.cons .v (.cons .v (.cons .v .nil))) (c_spec_l1Join _ _ _ ?_ ?_ ?_ _)) rfl ?_
            · first | assumption | omega | ((try simp only [gi_eq, Er_eq, E_eq]); first | omega | grind)
            · first | assumption | omega | ((try simp only [gi_eq, Er_eq, E_eq]); first | omega | grind)
            · first | assumption | omega | ((try simp only [gi_eq, Er_eq, E_eq]); first | omega | grind)
            refine W.opGP rfl rfl rfl rfl (opLss hL rfl rfl).sem rfl (fun c6 => ?_) (fun c6 => ?_)
            · skip
              try simp only [gi_eq, Er_eq, E_eq] at c6
              refine W.op rfl (opPick rfl).sem rfl ?_
              refine W.end ?_
              refine W.jx G0up _ (eac rfl (eac rfl (eac rfl (eac rfl ean)))) han (fun _ => rfl) rfl ?_
              · clear h; (try simp only [gi_eq, Er_eq, E_eq]); grind
            · skip
              try simp only [gi_eq, Er_eq, E_eq] at c6
              refine W.op rfl (opPick rfl).sem rfl ?_
              refine W.end ?_
              refine W.jx G0up _ (eac rfl (eac rfl (eac rfl (eac rfl ean)))) han (fun _ => rfl) rfl ?_
              · clear h; (try simp only [gi_eq, Er_eq, E_eq]); grind
        · rintro q31 J31
          try simp only [gi_eq, Er_eq, E_eq] at J31
          change W _ _ _ _ _ _ (envOf [(0, _), (3, _), (4, _), (31, .v .bool q31)]) (hp (pushH (h)) [])
          refine W.condJ rfl J31 (fun c7 => ?_) (fun c7 => ?_)
          · skip
            try simp only [gi_eq, Er_eq, E_eq] at c7
            refine W.seq ?_
            refine W.region ?_
            refine W.op rfl (opAssign rfl).sem rfl ?_
            refine W.end ?_
            refine W.ret (endsR rfl (.cons .v .nil) ?_ (fun _ => rfl))
            refine one_f ?_
            · first | (exact fun k => absurd k.ord (by assumption)) | (have o : IsOrd u := (by grind); exact not_lat (a := a) (b := b) (by omega) (by grind) (by omega) (by grind) (by omega))
          · skip
            try simp only [gi_eq, Er_eq, E_eq] at c7
            refine W.skip ?_
            refine W.blk ?_
            refine W.region ?_
            refine W.op rfl (opMove rfl).sem rfl ?_
            refine W.op rfl (opAdd hL rfl rfl ?_).sem rfl ?_
            · unfold In64; first | omega | ((try simp only [gi_eq, Er_eq, E_eq]); first | omega | grind)
            refine W.op rfl (opAssign rfl).sem rfl ?_
            refine W.end ?_
            refine W.nx G0up _ (eac rfl (eac rfl (eac rfl ean))) han (fun _ => rfl) rfl ?_ ?_
            · try dsimp only
              omega
            · exact ⟨(by omega), (by omega), (by (try simp only [gi_eq, Er_eq, E_eq]); exact step_lt hB (by omega))⟩
      · skip
        try simp only [gi_eq, Er_eq, E_eq] at c4
        refine W.end ?_
        refine W.condF rfl ?_
        refine W.exit rfl ?_
        refine W.blk ?_
        refine W.region ?_
        refine W.op rfl (opMove rfl).sem rfl ?_
        refine W.op rfl (opAdd hL rfl rfl ?_).sem rfl ?_
        · unfold In64; first | omega | ((try simp only [gi_eq, Er_eq, E_eq]); first | omega | grind)
        refine W.op rfl (opAssign rfl).sem rfl ?_
        refine W.end ?_
        refine W.nx G0up _ (eac rfl (eac rfl ean)) han (fun _ => rfl) rfl ?_ ?_
        · try dsimp only
          omega
        · exact ⟨(by omega), (by omega), (by (try simp only [gi_eq, Er_eq, E_eq]); exact step_lt hA (by exact fun b h0 h1 => hB b h0 (by omega)))⟩
    · skip
      try simp only [gi_eq, Er_eq, E_eq] at c3
      refine W.exit rfl ?_
      refine W.seq ?_
      refine W.region ?_
      refine W.op rfl (opMove rfl).sem rfl ?_
      refine W.opP rfl (opCallR [some (.sl (.sl (.int .i64)))] rfl (.cons .v .nil) (c_spec_OrderOk _ _)) rfl (fun c8 => ?_) (fun c8 => ?_)
      · skip
        try simp only [gi_eq, Er_eq, E_eq] at c8
        refine W.op rfl (opAssign rfl).sem rfl ?_
        refine W.end ?_
        refine W.ret (endsR rfl (.cons .v .nil) ?_ (fun _ => rfl))
        refine one_t ?_
        · have o : IsOrd u := (by assumption); exact IsLat.of2 o (fun a b h0 h1 h2 h3 => hA a h0 (by grind) b h2 h3)
      · skip
        try simp only [gi_eq, Er_eq, E_eq] at c8
        refine W.op rfl (opAssign rfl).sem rfl ?_
        refine W.end ?_
        refine W.ret (endsR rfl (.cons .v .nil) ?_ (fun _ => rfl))
        refine one_f ?_
        · first | (exact fun k => absurd k.ord (by assumption)) | (have o : IsOrd u := (by grind); exact not_lat (a := a) (b := b) (by omega) (by grind) (by omega) (by grind) (by omega))
theorem c_spec_LeastOf (u : (List (List Int)))  (h : Heap) : FnRes Try.prog G0 117 [.v (.sl (.sl (.int .i64))) u] h (.tup [.v (.int .i64) (leastV u), .v .bool (decide (HasLeast u))]) h := by
  refine FnRes.intro (N := 36) (rs := [.tmp 2, .tmp 3]) [some (.int .i64), some .bool] hL G0up Try.func117 rfl rfl rfl rfl rfl ?_
  refine W.lenV 0 rfl (fun hl0 => ?_)
  unfold lenMax at hl0
  refine W.seq ?_
  refine W.region ?_
  refine W.op rfl (opAssign rfl).sem rfl ?_
  refine W.op rfl (opAssign rfl).sem rfl ?_
  refine W.end ?_
  refine W.seq ?_
  refine W.seq ?_
  refine W.region ?_
  refine W.op rfl (opAssign rfl).sem rfl ?_
  refine W.end ?_
  refine W.block ?_
  refine W.lp G0up [(0, _)] [] (fun (k : Int) => [(4, .v (.int .i64) k)]) (fun (k : Int) => []) (fun (k : Int) => h) (fun (k : Int) => ((u.length : Int) - k).toNat) (fun (k : Int) => (0 ≤ k) ∧ (k ≤ (u.length : Int)) ∧ (∀ a : Int, 0 ≤ a → a < k → ¬ Least u a)) _ ?_ (eac rfl (eac rfl ean)) han (fun _ => rfl) rfl ?_
  · exact ⟨(by omega), (by omega), (by intro a; omega)⟩
  rintro k ⟨hk0, hk1, hA⟩
  change W _ _ _ _ _ _ (envOf [(0, _), (4, .v (.int .i64) k)]) (hp (pushH (h)) [])
  refine W.lenV 0 rfl (fun hl_0 => ?_)
  unfold lenMax at hl_0
  try simp only [gi_eq, Er_eq, E_eq] at hl_0
  refine W.seq ?_
  refine W.seq ?_
  refine W.jr [(0, _), (4, _)] [] (fun (q14 : Bool) => [(14, .v .bool q14)]) (fun (q14 : Bool) => (q14 = true ↔ (k < ((u.length : Int))) ∧ ((IsOrd u)))) (eac rfl (eac rfl ean)) han (fun _ => rfl) ?_ ?_
  · skip
    refine W.region ?_
    refine W.op rfl (opMove rfl).sem rfl ?_
    refine W.op rfl (opMove rfl).sem rfl ?_
    refine W.op rfl (opLen hL rfl rfl).sem rfl ?_
    refine W.opP rfl (opLss hL rfl rfl).sem rfl (fun c1 => ?_) (fun c1 => ?_)
    · skip
      try simp only [gi_eq, Er_eq, E_eq] at c1
      refine W.op rfl (opMove rfl).sem rfl ?_
      refine W.opG rfl rfl rfl rfl (opMove rfl).sem rfl ?_
      refine W.opGP rfl rfl rfl rfl (opCallR [some (.sl (.sl (.int .i64)))] rfl (.cons .v .nil) (c_spec_OrderOk _ _)) rfl (fun c2 => ?_) (fun c2 => ?_)
      · skip
        try simp only [gi_eq, Er_eq, E_eq] at c2
        refine W.op rfl (opPick rfl).sem rfl ?_
        refine W.end ?_
        refine W.jx G0up _ (eac rfl (eac rfl (eac rfl ean))) han (fun _ => rfl) rfl ?_
        · clear h; (try simp only [gi_eq, Er_eq, E_eq]); grind
      · skip
        try simp only [gi_eq, Er_eq, E_eq] at c2
        refine W.op rfl (opPick rfl).sem rfl ?_
        refine W.end ?_
        refine W.jx G0up _ (eac rfl (eac rfl (eac rfl ean))) han (fun _ => rfl) rfl ?_
        · clear h; (try simp only [gi_eq, Er_eq, E_eq]); grind
    · skip
      try simp only [gi_eq, Er_eq, E_eq] at c1
      refine W.op rfl (opMove rfl).sem rfl ?_
      refine W.off rfl rfl rfl rfl rfl rfl ?_
      refine W.off rfl rfl rfl rfl rfl rfl ?_
      refine W.op rfl (opPick rfl).sem rfl ?_
      refine W.end ?_
      refine W.jx G0up _ (eac rfl (eac rfl (eac rfl ean))) han (fun _ => rfl) rfl ?_
      · clear h; (try simp only [gi_eq, Er_eq, E_eq]); grind
  · rintro q14 J14
    try simp only [gi_eq, Er_eq, E_eq] at J14
    change W _ _ _ _ _ _ (envOf [(0, _), (4, _), (14, .v .bool q14)]) (hp (pushH (h)) [])
    refine W.condJ rfl J14 (fun c3 => ?_) (fun c3 => ?_)
    · skip
      try simp only [gi_eq, Er_eq, E_eq] at c3
      refine W.skip ?_
      refine W.seq ?_
      refine W.block ?_
      refine W.seq ?_
      refine W.region ?_
      refine W.op rfl (opAssign rfl).sem rfl ?_
      refine W.end ?_
      refine W.seq ?_
      refine W.seq ?_
      refine W.region ?_
      refine W.op rfl (opAssign rfl).sem rfl ?_
      refine W.end ?_
      refine W.block ?_
      refine W.lp G0up [(0, _), (4, _)] [] (fun ((all_, j) : Bool × Int) => [(5, .v .bool all_), (6, .v (.int .i64) j)]) (fun ((all_, j) : Bool × Int) => []) (fun ((all_, j) : Bool × Int) => h) (fun ((all_, j) : Bool × Int) => ((u.length : Int) - j).toNat) (fun ((all_, j) : Bool × Int) => (0 ≤ j) ∧ (j ≤ (u.length : Int)) ∧ (all_ = true ↔ ∀ d : Int, 0 ≤ d → d < j → E u k d = 1)) (_, _) ?_ (eac rfl (eac rfl (eac rfl (eac rfl ean)))) han (fun _ => rfl) rfl ?_
      · exact ⟨(by omega), (by omega), (by simp; intro d; omega)⟩
      rintro ⟨all_, j⟩ ⟨hj0, hj1, hB⟩
      change W _ _ _ _ _ _ (envOf [(0, _), (4, _), (5, .v .bool all_), (6, .v (.int .i64) j)]) (hp (pushH (h)) [])
      refine W.lenV 0 rfl (fun hl_2 => ?_)
      unfold lenMax at hl_2
      try simp only [gi_eq, Er_eq, E_eq] at hl_2
      refine W.seq ?_
      refine W.seq ?_
      refine W.region ?_
      refine W.op rfl (opMove rfl).sem rfl ?_
      refine W.op rfl (opMove rfl).sem rfl ?_
      refine W.op rfl (opLen hL rfl rfl).sem rfl ?_
      refine W.opP rfl (opLss hL rfl rfl).sem rfl (fun c4 => ?_) (fun c4 => ?_)
      · skip
        try simp only [gi_eq, Er_eq, E_eq] at c4
        refine W.end ?_
        refine W.condT rfl ?_
        refine W.skip ?_
        refine W.seq ?_
        refine W.block ?_
        refine W.region ?_
        refine W.op rfl (opMove rfl).sem rfl ?_
        refine W.op rfl (opMove rfl).sem rfl ?_
        refine W.boolAt 24 rfl (fun c5 => ?_) (fun c5 => ?_)
        · skip
          try simp only [gi_eq, Er_eq, E_eq] at c5
          refine W.opG rfl rfl rfl rfl (opMove rfl).sem rfl ?_
          refine W.opG rfl rfl rfl rfl (opMove rfl).sem rfl ?_
          refine W.opG rfl rfl rfl rfl (opIdx hL rfl rfl rfl ?_ ?_).sem rfl ?_
          · first | omega | ((try simp only [gi_eq, Er_eq, E_eq]); first | omega | grind)
          · first | omega | exact (by grind : IsOrd u).sq.hi (by omega) (by grind) (by grind)
          refine W.opG rfl rfl rfl rfl (opLoad hL rfl rfl).sem rfl ?_
          refine W.opG rfl rfl rfl rfl (opMove rfl).sem rfl ?_
          refine W.opG rfl rfl rfl rfl (opIdx hL rfl rfl rfl ?_ ?_).sem rfl ?_
          · first | omega | ((try simp only [gi_eq, Er_eq, E_eq]); first | omega | grind)
          · first | omega | exact (by grind : IsOrd u).sq.hi (by omega) (by grind) (by grind)
          refine W.opG rfl rfl rfl rfl (opLoad hL rfl rfl).sem rfl ?_
          refine W.opGP rfl rfl rfl rfl (opEqI hL rfl rfl).sem rfl (fun c6 => ?_) (fun c6 => ?_)
          · skip
            try simp only [gi_eq, Er_eq, E_eq] at c6
            refine W.op rfl (opPick rfl).sem rfl ?_
            refine W.op rfl (opAssign rfl).sem rfl ?_
            refine W.end ?_
            refine W.blk ?_
            refine W.region ?_
            refine W.op rfl (opMove rfl).sem rfl ?_
            refine W.op rfl (opAdd hL rfl rfl ?_).sem rfl ?_
            · unfold In64; first | omega | ((try simp only [gi_eq, Er_eq, E_eq]); first | omega | grind)
            refine W.op rfl (opAssign rfl).sem rfl ?_
            refine W.end ?_
            refine W.nx G0up (_, _) (eac rfl (eac rfl (eac rfl (eac rfl ean)))) han (fun _ => rfl) rfl ?_ ?_
            · try dsimp only
              omega
            · exact ⟨(by omega), (by omega), (by (try simp only [gi_eq, Er_eq, E_eq]); grind)⟩
          · skip
            try simp only [gi_eq, Er_eq, E_eq] at c6
            refine W.op rfl (opPick rfl).sem rfl ?_
            refine W.op rfl (opAssign rfl).sem rfl ?_
            refine W.end ?_
            refine W.blk ?_
            refine W.region ?_
            refine W.op rfl (opMove rfl).sem rfl ?_
            refine W.op rfl (opAdd hL rfl rfl ?_).sem rfl ?_
            · unfold In64; first | omega | ((try simp only [gi_eq, Er_eq, E_eq]); first | omega | grind)
            refine W.op rfl (opAssign rfl).sem rfl ?_
            refine W.end ?_
            refine W.nx G0up (_, _) (eac rfl (eac rfl (eac rfl (eac rfl ean)))) han (fun _ => rfl) rfl ?_ ?_
            · try dsimp only
              omega
            · exact ⟨(by omega), (by omega), (by (try simp only [gi_eq, Er_eq, E_eq]); grind)⟩
        · skip
          try simp only [gi_eq, Er_eq, E_eq] at c5
          refine W.off rfl rfl rfl rfl rfl rfl ?_
          refine W.off rfl rfl rfl rfl rfl rfl ?_
          refine W.off rfl rfl rfl rfl rfl rfl ?_
          refine W.off rfl rfl rfl rfl rfl rfl ?_
          refine W.off rfl rfl rfl rfl rfl rfl ?_
          refine W.off rfl rfl rfl rfl rfl rfl ?_
          refine W.off rfl rfl rfl rfl rfl rfl ?_
          refine W.off rfl rfl rfl rfl rfl rfl ?_
          refine W.op rfl (opPick rfl).sem rfl ?_
          refine W.op rfl (opAssign rfl).sem rfl ?_
          refine W.end ?_
          refine W.blk ?_
          refine W.region ?_
          refine W.op rfl (opMove rfl).sem rfl ?_
          refine W.op rfl (opAdd hL rfl rfl ?_).sem rfl ?_
          · unfold In64; first | omega | ((try simp only [gi_eq, Er_eq, E_eq]); first | omega | grind)
          refine W.op rfl (opAssign rfl).sem rfl ?_
          refine W.end ?_
          refine W.nx G0up (_, _) (eac rfl (eac rfl (eac rfl (eac rfl ean)))) han (fun _ => rfl) rfl ?_ ?_
          · try dsimp only
            omega
          · exact ⟨(by omega), (by omega), (by (try simp only [gi_eq, Er_eq, E_eq]); grind)⟩
      · skip
        try simp only [gi_eq, Er_eq, E_eq] at c4
        refine W.end ?_
        refine W.condF rfl ?_
        refine W.exit rfl ?_
        refine W.seq ?_
        refine W.region ?_
        refine W.op rfl (opMove rfl).sem rfl ?_
        refine W.end ?_
        refine W.cond rfl (fun c7 => ?_) (fun c7 => ?_)
        · skip
          try simp only [gi_eq, Er_eq, E_eq] at c7
          refine W.seq ?_
          refine W.region ?_
          refine W.op rfl (opMove rfl).sem rfl ?_
          refine W.op rfl (opAssign rfl).sem rfl ?_
          refine W.op rfl (opAssign rfl).sem rfl ?_
          refine W.end ?_
          refine W.ret (endsR rfl (.cons .v (.cons .v .nil)) ?_ (fun _ => rfl))
          refine many_v2 ?_ ?_
          · first | (exact leastV_of (by grind) (by have hS := (by grind : IsOrd u).sq; grind [Least, Sq])) | (refine leastV_none (fun k => ?_); obtain ⟨o, c, hc⟩ := k; exact hA c hc.1 (by have := hc.2.1; grind) hc)
          · first | (refine (decide_eq_true ⟨by grind, k, ?_⟩).symm; have hS := (by grind : IsOrd u).sq; grind [Least, Sq]) | (refine (decide_eq_false (fun k : HasLeast u => ?_)).symm; obtain ⟨o, c, hc⟩ := k; exact hA c hc.1 (by have := hc.2.1; grind) hc)
        · skip
          try simp only [gi_eq, Er_eq, E_eq] at c7
          refine W.skip ?_
          refine W.blk ?_
          refine W.region ?_
          refine W.op rfl (opMove rfl).sem rfl ?_
          refine W.op rfl (opAdd hL rfl rfl ?_).sem rfl ?_
          · unfold In64; first | omega | ((try simp only [gi_eq, Er_eq, E_eq]); first | omega | grind)
          refine W.op rfl (opAssign rfl).sem rfl ?_
          refine W.end ?_
          refine W.nx G0up _ (eac rfl (eac rfl ean)) han (fun _ => rfl) rfl ?_ ?_
          · try dsimp only
            omega
          · exact ⟨(by omega), (by omega), (by (try simp only [gi_eq, Er_eq, E_eq]); exact step_lt hA (by have hS := (by grind : IsOrd u).sq; grind [Least, Sq]))⟩
    · skip
      try simp only [gi_eq, Er_eq, E_eq] at c3
      refine W.exit rfl ?_
      refine W.seq ?_
      refine W.region ?_
      refine W.op rfl (opAssign rfl).sem rfl ?_
      refine W.op rfl (opAssign rfl).sem rfl ?_
      refine W.end ?_
      refine W.ret (endsR rfl (.cons .v (.cons .v .nil)) ?_ (fun _ => rfl))
      refine many_v2 ?_ ?_
      · first | (exact leastV_of (by grind) (by have hS := (by grind : IsOrd u).sq; grind [Least, Sq])) | (refine leastV_none (fun k => ?_); obtain ⟨o, c, hc⟩ := k; exact hA c hc.1 (by have := hc.2.1; grind) hc)
      · first | (refine (decide_eq_true ⟨by grind, k, ?_⟩).symm; have hS := (by grind : IsOrd u).sq; grind [Least, Sq]) | (refine (decide_eq_false (fun k : HasLeast u => ?_)).symm; obtain ⟨o, c, hc⟩ := k; exact hA c hc.1 (by have := hc.2.1; grind) hc)
end Go.Vs

set_option linter.unusedVariables false
set_option linter.unusedSimpArgs false
set_option maxRecDepth 20000
set_option maxHeartbeats 4000000
namespace Go.Vs
open Go Go.RowKit Go.Proofs
open Classical
theorem c_impl_told (l : ((List (List Int)) × (List Int) × Unit))  (h : Heap) : FnRes Try.prog G0 66 [.v (.cons (.sl (.sl (.int .i64))) (.cons (.sl (.int .i64)) .nil)) l] h (.v (.ptr (.cons (.sl (.sl (.int .i64))) (.cons (.sl (.sl (.int .i64))) (.cons (.sl (.sl (.int .i64))) (.cons (.sl (.int .i64)) (.cons (.int .i64) (.cons (.int .i64) .nil))))))) (toldV l)) h := by
  refine FnRes.intro (N := 187) (rs := [.tmp 2]) [some (.ptr (.cons (.sl (.sl (.int .i64))) (.cons (.sl (.sl (.int .i64))) (.cons (.sl (.sl (.int .i64))) (.cons (.sl (.int .i64)) (.cons (.int .i64) (.cons (.int .i64) .nil)))))))] hL G0up Try.func66 rfl rfl rfl rfl rfl ?_
  refine W.seq ?_
  refine W.region ?_
  refine W.op rfl (opBoxV rfl rfl rfl) rfl ?_
  refine W.op rfl (opAssign rfl).sem rfl ?_
  refine W.end ?_
  refine W.seq ?_
  refine W.seq ?_
  refine W.jr [(1, _)] [(1, _)] (fun (q27 : Bool) => [(27, .v .bool q27)]) (fun (q27 : Bool) => (q27 = true ↔ (¬ ((IsLat l.1))) ∨ (((l.2.1.length : Int)) ≠ ((l.1.length : Int))))) (eac rfl ean) (hac rfl han) (fun _ => rfl) ?_ ?_
  · skip
    refine W.region ?_
    refine W.op rfl (opFieldBox hL rfl rfl rfl rfl).sem rfl ?_
    refine W.op rfl (opLoadBp hL rfl rfl rfl rfl).sem rfl ?_
    refine W.opP rfl (opCallR [some (.sl (.sl (.int .i64)))] rfl (.cons .v .nil) (c_impl_LatticeOk _ _)) rfl (fun c1 => ?_) (fun c1 => ?_)
    · skip
      try simp only [gi_eq, Er_eq, E_eq, tabV_len] at c1
      refine W.op rfl (opUn rfl).sem rfl ?_
      refine W.op rfl (opMove rfl).sem rfl ?_
      refine W.opG rfl rfl rfl rfl (opFieldBox hL rfl rfl rfl rfl).sem rfl ?_
      refine W.opG rfl rfl rfl rfl (opLoadBp hL rfl rfl rfl rfl).sem rfl ?_
      refine W.opG rfl rfl rfl rfl (opLen hL rfl rfl).sem rfl ?_
      refine W.opG rfl rfl rfl rfl (opFieldBox hL rfl rfl rfl rfl).sem rfl ?_
      refine W.opG rfl rfl rfl rfl (opLoadBp hL rfl rfl rfl rfl).sem rfl ?_
      refine W.opG rfl rfl rfl rfl (opLen hL rfl rfl).sem rfl ?_
      refine W.opGP rfl rfl rfl rfl (opNeI hL rfl rfl).sem rfl (fun c2 => ?_) (fun c2 => ?_)
      · skip
        try simp only [gi_eq, Er_eq, E_eq, tabV_len] at c2
        refine W.op rfl (opPick rfl).sem rfl ?_
        refine W.end ?_
        refine W.jx G0up _ (eac rfl (eac rfl ean)) (hac rfl han) (fun _ => rfl) rfl ?_
        · clear h; (try simp only [gi_eq, Er_eq, E_eq, tabV_len]); grind
      · skip
        try simp only [gi_eq, Er_eq, E_eq, tabV_len] at c2
        refine W.op rfl (opPick rfl).sem rfl ?_
        refine W.end ?_
        refine W.jx G0up _ (eac rfl (eac rfl ean)) (hac rfl han) (fun _ => rfl) rfl ?_
        · clear h; (try simp only [gi_eq, Er_eq, E_eq, tabV_len]); grind
    · skip
      try simp only [gi_eq, Er_eq, E_eq, tabV_len] at c1
      refine W.op rfl (opUn rfl).sem rfl ?_
      refine W.op rfl (opMove rfl).sem rfl ?_
      refine W.off rfl rfl rfl rfl rfl rfl ?_
      refine W.off rfl rfl rfl rfl rfl rfl ?_
      refine W.off rfl rfl rfl rfl rfl rfl ?_
      refine W.off rfl rfl rfl rfl rfl rfl ?_
      refine W.off rfl rfl rfl rfl rfl rfl ?_
      refine W.off rfl rfl rfl rfl rfl rfl ?_
      refine W.off rfl rfl rfl rfl rfl rfl ?_
      refine W.op rfl (opPick rfl).sem rfl ?_
      refine W.end ?_
      refine W.jx G0up _ (eac rfl (eac rfl ean)) (hac rfl han) (fun _ => rfl) rfl ?_
      · clear h; (try simp only [gi_eq, Er_eq, E_eq, tabV_len]); grind
  · rintro q27 J27
    try simp only [gi_eq, Er_eq, E_eq, tabV_len] at J27
    change W _ _ _ _ _ _ (envOf [(1, _), (27, .v .bool q27)]) (hp (pushH (h)) [(1, _)])
    refine W.condJ rfl J27 (fun c3 => ?_) (fun c3 => ?_)
    · skip
      try simp only [gi_eq, Er_eq, E_eq, tabV_len] at c3
      refine W.seq ?_
      refine W.region ?_
      refine W.op rfl (opAssign rfl).sem rfl ?_
      refine W.end ?_
      refine W.ret (endsR rfl (.cons (.one .nilp) .nil) ?_ (fun _ => rfl))
      refine one_v ?_
      · first | (rw [toldV_some ⟨lt, hln, fun a h0 h1 => ⟨(hN a h0 h1).1, (hN a h0 h1).2.1⟩, fun a h0 h1 => (hN a h0 h1).2.2.1, fun a b h0 h1 h2 h3 => hB a h0 (by omega) b h2 h3, fun a h0 h1 => (hN a h0 h1).2.2.2⟩]; rfl) | (refine toldV_none (fun k => ?_); have k1 := k.lat; have k2 := k.len; have k3 := k.rng; have k4 := k.inv; have k5 := k.anti; have k6 := k.compl; first | grind | (have := E_tab (f := meetV) (u := l.1) (a := x100) (b := gi l.2.1 x100); grind))
    · skip
      try simp only [gi_eq, Er_eq, E_eq, tabV_len] at c3
      refine W.skip ?_
      refine W.seq ?_
      refine W.region ?_
      refine W.op rfl (opFieldBox hL rfl rfl rfl rfl).sem rfl ?_
      refine W.op rfl (opLoadBp hL rfl rfl rfl rfl).sem rfl ?_
      refine W.op rfl (opFieldBox hL rfl rfl rfl rfl).sem rfl ?_
      refine W.op rfl (opLoadBp hL rfl rfl rfl rfl).sem rfl ?_
      refine W.op rfl (opBuild hL rfl rfl rfl).sem rfl ?_
      refine W.op rfl (opBoxAgg rfl (okBs_ok rfl) rfl rfl) rfl ?_
      refine W.op rfl (opAssign rfl).sem rfl ?_
      refine W.end ?_
      refine W.seq ?_
      refine W.region ?_
      refine W.op rfl (opFieldBox hL rfl rfl rfl rfl).sem rfl ?_
      refine W.op rfl (opLoadBp hL rfl rfl rfl rfl).sem rfl ?_
      refine W.op rfl (opCallR [some (.sl (.sl (.int .i64)))] rfl (.cons .v .nil) (c_impl_turned _ ?_ ?_ _)) rfl ?_
      · exact (by grind : IsLat l.1).ord.sq
      · have := (by grind : IsLat l.1).ord.max; omega
      refine W.op rfl (opAssign rfl).sem rfl ?_
      refine W.end ?_
      refine W.seq ?_
      refine W.seq ?_
      refine W.region ?_
      refine W.op rfl (opFieldBox hL rfl rfl rfl rfl).sem rfl ?_
      refine W.op rfl (opLoadBp hL rfl rfl rfl rfl).sem rfl ?_
      refine W.op rfl (opLen hL rfl rfl).sem rfl ?_
      refine W.op rfl (opMove rfl).sem rfl ?_
      refine W.end ?_
      refine W.block ?_
      have lt : IsLat l.1 := (by grind)
      have o := lt.ord
      have hmx := o.max
      have hln : (l.2.1.length : Int) = l.1.length := (by grind)
      have hle := leastV_least lt.least
      have hle0 := hle.1
      have hle1 := hle.2.1
      refine W.nilRowB (.own 33) 1 75 (.sl (.int .i64)) (elt Try.prog 22) rfl rfl rfl rfl ?_
      refine W.nilRowB (.own 33) 2 82 (.sl (.int .i64)) (elt Try.prog 22) rfl rfl rfl rfl ?_
      refine W.lp G0up [(1, _), (3, _), (4, _), (39, _)] [(1, _)] (fun ((x40, xs75, r75, xs82, r82) : Int × List (List Int) × Nat × List (List Int) × Nat) => [(40, .v (.int .i64) x40)]) (fun ((x40, xs75, r75, xs82, r82) : Int × List (List Int) × Nat × List (List Int) × Nat) => [(33, .box false [.v (.sl (.sl (.int .i64))) l.1, .rw (.own 75) r75, .rw (.own 82) r82, .v (.sl (.int .i64)) l.2.1, .v (.int .i64) 0, .v (.int .i64) 0]), (75, .row false r75 (.sl (.int .i64)) (elt Try.prog 22) xs75), (82, .row false r82 (.sl (.int .i64)) (elt Try.prog 22) xs82)]) (fun ((x40, xs75, r75, xs82, r82) : Int × List (List Int) × Nat × List (List Int) × Nat) => h) (fun ((x40, xs75, r75, xs82, r82) : Int × List (List Int) × Nat × List (List Int) × Nat) => ((l.1.length : Int) - x40).toNat) (fun ((x40, xs75, r75, xs82, r82) : Int × List (List Int) × Nat × List (List Int) × Nat) => (0 ≤ x40) ∧ (x40 ≤ (l.1.length : Int)) ∧ (xs75 = (tabV meetV l.1).take x40.toNat ∧ xs75.length = x40.toNat) ∧ (xs82 = (tabV joinV l.1).take x40.toNat ∧ xs82.length = x40.toNat)) (_, _, _, _, _) ?_ (eac rfl (eac rfl (eac rfl (eac rfl (eac rfl ean))))) (hac rfl (hac rfl (hac rfl (hac rfl han)))) (fun _ => rfl) rfl ?_
      · exact ⟨(by omega), (by omega), (by simp), (by simp)⟩
      rintro ⟨x40, xs75, r75, xs82, r82⟩ ⟨hx400, hx401, hn, hm⟩
      change W _ _ _ _ _ _ (envOf [(1, _), (3, _), (4, _), (39, _), (40, .v (.int .i64) x40)]) (hp (pushH (h)) [(1, _), (33, .box false [.v (.sl (.sl (.int .i64))) l.1, .rw (.own 75) r75, .rw (.own 82) r82, .v (.sl (.int .i64)) l.2.1, .v (.int .i64) 0, .v (.int .i64) 0]), (75, .row false r75 (.sl (.int .i64)) (elt Try.prog 22) xs75), (82, .row false r82 (.sl (.int .i64)) (elt Try.prog 22) xs82)])
      refine W.seq ?_
      refine W.region ?_
      refine W.opP rfl (opLss hL rfl rfl).sem rfl (fun c4 => ?_) (fun c4 => ?_)
      · skip
        try simp only [gi_eq, Er_eq, E_eq, tabV_len] at c4
        refine W.end ?_
        refine W.seq ?_
        refine W.condT rfl ?_
        refine W.skip ?_
        refine W.seq ?_
        refine W.block ?_
        refine W.seq ?_
        refine W.region ?_
        refine W.op rfl (opMove rfl).sem rfl ?_
        refine W.op rfl (opAssign rfl).sem rfl ?_
        refine W.end ?_
        refine W.seq ?_
        refine W.region ?_
        refine W.op rfl (opLitR hL rfl rfl rfl rfl rfl .nil rfl rfl) rfl ?_
        refine W.op rfl (opLitR hL rfl rfl rfl rfl rfl .nil rfl rfl) rfl ?_
        refine W.op rfl (opAssign rfl).sem rfl ?_
        refine W.op rfl (opAssign rfl).sem rfl ?_
        refine W.end ?_
        refine W.seq ?_
        refine W.seq ?_
        refine W.region ?_
        refine W.op rfl (opFieldBox hL rfl rfl rfl rfl).sem rfl ?_
        refine W.op rfl (opLoadBp hL rfl rfl rfl rfl).sem rfl ?_
        refine W.op rfl (opLen hL rfl rfl).sem rfl ?_
        refine W.op rfl (opMove rfl).sem rfl ?_
        refine W.end ?_
        refine W.block ?_
        refine W.lp G0up [(1, _), (3, _), (4, _), (5, _), (39, _), (40, _), (47, _)] [(1, _), (33, _), (75, _), (82, _)] (fun ((x48, xs43, r43, xs44, r44) : Int × List Int × Nat × List Int × Nat) => [(6, .rw (.own 43) r43), (7, .rw (.own 44) r44), (48, .v (.int .i64) x48)]) (fun ((x48, xs43, r43, xs44, r44) : Int × List Int × Nat × List Int × Nat) => [(43, .row false r43 (.int .i64) (elt Try.prog 23) xs43), (44, .row false r44 (.int .i64) (elt Try.prog 23) xs44)]) (fun ((x48, xs43, r43, xs44, r44) : Int × List Int × Nat × List Int × Nat) => h) (fun ((x48, xs43, r43, xs44, r44) : Int × List Int × Nat × List Int × Nat) => ((l.1.length : Int) - x48).toNat) (fun ((x48, xs43, r43, xs44, r44) : Int × List Int × Nat × List Int × Nat) => (0 ≤ x48) ∧ (x48 ≤ (l.1.length : Int)) ∧ (xs43 = (Er (tabV meetV l.1) x40).take x48.toNat ∧ xs43.length = x48.toNat) ∧ (xs44 = (Er (tabV joinV l.1) x40).take x48.toNat ∧ xs44.length = x48.toNat)) (_, _, _, _, _) ?_ (eac rfl (eac rfl (eac rfl (eac rfl (eac rfl (eac rfl (eac rfl (eac rfl (eac rfl (eac rfl ean)))))))))) (hac rfl (hac rfl (hac rfl (hac rfl (hac rfl (hac rfl han)))))) (fun _ => rfl) rfl ?_
        · exact ⟨(by omega), (by omega), (by simp), (by simp)⟩
        rintro ⟨x48, xs43, r43, xs44, r44⟩ ⟨hx480, hx481, hr, hs⟩
        change W _ _ _ _ _ _ (envOf [(1, _), (3, _), (4, _), (5, _), (39, _), (40, _), (47, _), (6, .rw (.own 43) r43), (7, .rw (.own 44) r44), (48, .v (.int .i64) x48)]) (hp (pushH (h)) [(1, _), (33, _), (75, _), (82, _), (43, .row false r43 (.int .i64) (elt Try.prog 23) xs43), (44, .row false r44 (.int .i64) (elt Try.prog 23) xs44)])
        refine W.seq ?_
        refine W.region ?_
        refine W.opP rfl (opLss hL rfl rfl).sem rfl (fun c5 => ?_) (fun c5 => ?_)
        · skip
          try simp only [gi_eq, Er_eq, E_eq, tabV_len] at c5
          refine W.end ?_
          refine W.seq ?_
          refine W.condT rfl ?_
          refine W.skip ?_
          refine W.seq ?_
          refine W.block ?_
          refine W.seq ?_
          refine W.region ?_
          refine W.op rfl (opMove rfl).sem rfl ?_
          refine W.op rfl (opAssign rfl).sem rfl ?_
          refine W.end ?_
          refine W.seq ?_
          refine W.region ?_
          refine W.op rfl (opMove rfl).sem rfl ?_
          refine W.op rfl (opFieldBox hL rfl rfl rfl rfl).sem rfl ?_
          refine W.op rfl (opLoadBp hL rfl rfl rfl rfl).sem rfl ?_
          refine W.op rfl (opMove rfl).sem rfl ?_
          refine W.op rfl (opMove rfl).sem rfl ?_
          refine W.op rfl (opCallR [some (.sl (.sl (.int .i64))), some (.int .i64), some (.int .i64)] rfl (.cons .v (.cons .v (.cons .v .nil))) (c_impl_meet _ _ _ ?_ ?_ ?_ _)) rfl ?_
          · first | exact o | exact o.tr
          · first | omega | (rw [tr_len]; omega)
          · first | omega | (rw [tr_len]; omega)
          refine W.op rfl (opLitR hL rfl rfl rfl rfl rfl (.cons .v .nil) rfl rfl) rfl ?_
          refine W.op rfl (opAppend hL rfl rfl rfl rfl rfl (.inr ⟨_, _, _, _, rfl, rfl⟩) ?_ rfl) rfl ?_
          · (try simp only [List.length_cons, List.length_nil, List.length_append, List.length_replicate]); first | omega | ((try simp only [gi_eq, Er_eq, E_eq, tabV_len]); first | omega | grind)
          refine W.op rfl (opAssign rfl).sem rfl ?_
          refine W.end ?_
          refine W.region ?_
          refine W.op rfl (opMove rfl).sem rfl ?_
          refine W.op rfl (opMove rfl).sem rfl ?_
          refine W.op rfl (opMove rfl).sem rfl ?_
          refine W.op rfl (opMove rfl).sem rfl ?_
          refine W.op rfl (opCallR [some (.sl (.sl (.int .i64))), some (.int .i64), some (.int .i64)] rfl (.cons .v (.cons .v (.cons .v .nil))) (c_impl_meet _ _ _ ?_ ?_ ?_ _)) rfl ?_
          · first | exact o | exact o.tr
          · first | omega | (rw [tr_len]; omega)
          · first | omega | (rw [tr_len]; omega)
          refine W.op rfl (opLitR hL rfl rfl rfl rfl rfl (.cons .v .nil) rfl rfl) rfl ?_
          refine W.op rfl (opAppend hL rfl rfl rfl rfl rfl (.inr ⟨_, _, _, _, rfl, rfl⟩) ?_ rfl) rfl ?_
          · (try simp only [List.length_cons, List.length_nil, List.length_append, List.length_replicate]); first | omega | ((try simp only [gi_eq, Er_eq, E_eq, tabV_len]); first | omega | grind)
          refine W.op rfl (opAssign rfl).sem rfl ?_
          refine W.end ?_
          refine W.blk ?_
          refine W.region ?_
          refine W.op rfl (opAdd hL rfl rfl ?_).sem rfl ?_
          · unfold In64; first | omega | ((try simp only [gi_eq, Er_eq, E_eq, tabV_len]); first | omega | grind)
          refine W.op rfl (opMove rfl).sem rfl ?_
          refine W.end ?_
          refine W.nx G0up (_, _, _, _, _) (eac rfl (eac rfl (eac rfl (eac rfl (eac rfl (eac rfl (eac rfl (eac rfl (eac rfl (eac rfl ean)))))))))) (hac rfl (hac rfl (hac rfl (hac rfl (hac rfl (hac rfl han)))))) (fun _ => rfl) rfl ?_ ?_
          · try dsimp only
            omega
          · exact ⟨(by omega), (by omega), (by (try simp only [gi_eq, Er_eq, E_eq, tabV_len]); exact ⟨take_step hx480 hr.1 (tab_get2 hx400 (by omega) hx480 (by omega)), by simp; omega⟩), (by (try simp only [gi_eq, Er_eq, E_eq, tabV_len]); rw [meetV_tr o ⟨hx400, by omega⟩ ⟨hx480, by omega⟩]; exact ⟨take_step hx480 hs.1 (tab_get2 hx400 (by omega) hx480 (by omega)), by simp; omega⟩)⟩
        · skip
          try simp only [gi_eq, Er_eq, E_eq, tabV_len] at c5
          refine W.end ?_
          refine W.seq ?_
          refine W.condF rfl ?_
          refine W.exit rfl ?_
          refine W.convR 6 (t := .sl (.int .i64)) (.one (.rw rfl)) ?_
          refine W.convR 7 (t := .sl (.int .i64)) (.one (.rw rfl)) ?_
          refine W.any [⟨[3], [], none⟩, ⟨[3], [], none⟩, ⟨[3], [], none⟩, ⟨[69], [], none⟩, ⟨[70], [], none⟩, ⟨[71], [.own 33], none⟩, ⟨[6], [], none⟩, ⟨[73], [.own 74], some (.own 74)⟩, ⟨[72, 74], [.own 75, .own 74], some (.own 75)⟩, ⟨[3], [], none⟩, ⟨[76], [], none⟩, ⟨[77], [], none⟩, ⟨[78], [.own 33], none⟩, ⟨[7], [], none⟩, ⟨[80], [.own 81], some (.own 81)⟩, ⟨[79, 81], [.own 82, .own 81], some (.own 82)⟩, ⟨[67], [], none⟩, ⟨[83], [], none⟩, ⟨[75, 84], [.own 33, .own 75], some (.own 33)⟩, ⟨[68], [], none⟩, ⟨[85], [], none⟩, ⟨[82, 86], [.own 33, .own 82], some (.own 33)⟩] hM (by kernel_rfl) ?_
          refine AW.op rfl (ARead.sem fun e' h' ha => opMove rfl) rfl trivial ?_
          refine AW.op rfl (ARead.sem fun e' h' ha => opMove rfl) rfl trivial ?_
          refine AW.op rfl (ARead.sem fun e' h' ha => opMove rfl) rfl trivial ?_
          refine AW.op rfl (ARead.sem fun e' h' ha => opNilCheck rfl rfl) rfl trivial ?_
          refine AW.op rfl (ARead.sem fun e' h' ha => opFieldBox hL rfl rfl rfl rfl) rfl trivial ?_
          refine AW.op rfl (ARead.sem fun e' h' ha => opLoadBp hL rfl rfl ((ha _ rfl).trans rfl) rfl) rfl trivial ?_
          refine AW.op rfl (ARead.sem fun e' h' ha => opMove rfl) rfl trivial ?_
          refine AW.op (eff := some (.own 74, _)) rfl (fun e' h' ha => opLitR hL rfl rfl rfl rfl rfl (.cons .v .nil) ((ha _ rfl).trans rfl) rfl) rfl rfl ?_
          refine AW.op (eff := some (.own 75, _)) rfl (fun e' h' ha => opAppend hL rfl rfl rfl ((ha _ rfl).trans rfl) rfl (.inr ⟨_, _, _, _, rfl, ((ha _ rfl).trans rfl)⟩) (by clear ha; (try simp only [List.length_cons, List.length_nil, List.length_append, List.length_replicate]); first | omega | ((try simp only [gi_eq, Er_eq, E_eq, tabV_len]); first | omega | grind)) rfl) rfl rfl ?_
          refine AW.op rfl (ARead.sem fun e' h' ha => opMove rfl) rfl trivial ?_
          refine AW.op rfl (ARead.sem fun e' h' ha => opNilCheck rfl rfl) rfl trivial ?_
          refine AW.op rfl (ARead.sem fun e' h' ha => opFieldBox hL rfl rfl rfl rfl) rfl trivial ?_
          refine AW.op rfl (ARead.sem fun e' h' ha => opLoadBp hL rfl rfl ((ha _ rfl).trans rfl) rfl) rfl trivial ?_
          refine AW.op rfl (ARead.sem fun e' h' ha => opMove rfl) rfl trivial ?_
          refine AW.op (eff := some (.own 81, _)) rfl (fun e' h' ha => opLitR hL rfl rfl rfl rfl rfl (.cons .v .nil) ((ha _ rfl).trans rfl) rfl) rfl rfl ?_
          refine AW.op (eff := some (.own 82, _)) rfl (fun e' h' ha => opAppend hL rfl rfl rfl ((ha _ rfl).trans rfl) rfl (.inr ⟨_, _, _, _, rfl, ((ha _ rfl).trans rfl)⟩) (by clear ha; (try simp only [List.length_cons, List.length_nil, List.length_append, List.length_replicate]); first | omega | ((try simp only [gi_eq, Er_eq, E_eq, tabV_len]); first | omega | grind)) rfl) rfl rfl ?_
          refine AW.op rfl (ARead.sem fun e' h' ha => opNilCheck rfl rfl) rfl trivial ?_
          refine AW.op rfl (ARead.sem fun e' h' ha => opFieldBox hL rfl rfl rfl rfl) rfl trivial ?_
          refine AW.op (eff := some (.own 33, _)) (v := .dead) rfl (fun e' h' ha => opStore hL rfl rfl ((ha _ rfl).trans rfl) rfl (okRw ((ha _ rfl).trans rfl)) rfl rfl rfl) rfl rfl ?_
          refine AW.op rfl (ARead.sem fun e' h' ha => opNilCheck rfl rfl) rfl trivial ?_
          refine AW.op rfl (ARead.sem fun e' h' ha => opFieldBox hL rfl rfl rfl rfl) rfl trivial ?_
          refine AW.op (eff := some (.own 33, _)) (v := .dead) rfl (fun e' h' ha => opStore hL rfl rfl ((ha _ rfl).trans rfl) rfl (okRw ((ha _ rfl).trans rfl)) rfl rfl rfl) rfl rfl ?_
          refine AW.end ?_
          refine W.blk ?_
          refine W.region ?_
          refine W.op rfl (opAdd hL rfl rfl ?_).sem rfl ?_
          · unfold In64; first | omega | ((try simp only [gi_eq, Er_eq, E_eq, tabV_len]); first | omega | grind)
          refine W.op rfl (opMove rfl).sem rfl ?_
          refine W.end ?_
          refine W.nx G0up (_, _, _, _, _) (eac rfl (eac rfl (eac rfl (eac rfl (eac rfl ean))))) (hac rfl (hac rfl (hac rfl (hac rfl han)))) (fun _ => rfl) rfl ?_ ?_
          · try dsimp only
            omega
          · exact ⟨(by omega), (by omega), (by (try simp only [gi_eq, Er_eq, E_eq, tabV_len]); exact ⟨take_step hx400 hn.1 (by rw [tab_get hx400 (by omega), take_all hr.1 (by rw [tab_row_len hx400 (by omega)]; omega)]), by simp; omega⟩), (by (try simp only [gi_eq, Er_eq, E_eq, tabV_len]); exact ⟨take_step hx400 hm.1 (by rw [tab_get hx400 (by omega), take_all hs.1 (by rw [tab_row_len hx400 (by omega)]; omega)]), by simp; omega⟩)⟩
      · skip
        try simp only [gi_eq, Er_eq, E_eq, tabV_len] at c4
        refine W.end ?_
        refine W.seq ?_
        refine W.condF rfl ?_
        refine W.exit rfl ?_
        refine W.seq ?_
        refine W.region ?_
        refine W.op rfl (opMove rfl).sem rfl ?_
        refine W.op rfl (opFieldBox hL rfl rfl rfl rfl).sem rfl ?_
        refine W.op rfl (opLoadBp hL rfl rfl rfl rfl).sem rfl ?_
        refine W.op rfl (opCallR [some (.sl (.sl (.int .i64)))] rfl (.cons .v .nil) (c_impl_LeastOf _ _)) rfl ?_
        refine W.op rfl (opMove rfl).sem rfl ?_
        refine W.op rfl (opExtract rfl rfl).sem rfl ?_
        refine W.op rfl (opExtract rfl rfl).sem rfl ?_
        refine W.op rfl (opNilCheck rfl rfl).sem rfl ?_
        refine W.op rfl (opFieldBox hL rfl rfl rfl rfl).sem rfl ?_
        refine W.op rfl (opStore hL rfl rfl rfl rfl (okBs_ok rfl) rfl rfl rfl) rfl ?_
        refine W.end ?_
        refine W.seq ?_
        refine W.seq ?_
        refine W.region ?_
        refine W.op rfl (opFieldBox hL rfl rfl rfl rfl).sem rfl ?_
        refine W.op rfl (opLoadBp hL rfl rfl rfl rfl).sem rfl ?_
        refine W.op rfl (opLen hL rfl rfl).sem rfl ?_
        refine W.op rfl (opMove rfl).sem rfl ?_
        refine W.end ?_
        refine W.block ?_
        have h75 : xs75 = tabV meetV l.1 := take_all hn.1 (by rw [tabV_len]; omega)
        have h82 : xs82 = tabV joinV l.1 := take_all hm.1 (by rw [tabV_len]; omega)
        clear hn hm
        subst h75 h82
        refine W.lp G0up [(1, _), (3, _), (98, _), (99, _)] [(1, _), (33, _), (75, _), (82, _)] (fun (x100 : Int) => [(100, .v (.int .i64) x100)]) (fun (x100 : Int) => []) (fun (x100 : Int) => h) (fun (x100 : Int) => ((l.2.1.length : Int) - x100).toNat) (fun (x100 : Int) => (0 ≤ x100) ∧ (x100 ≤ (l.2.1.length : Int)) ∧ (∀ a : Int, 0 ≤ a → a < x100 → 0 ≤ gi l.2.1 a ∧ gi l.2.1 a < (l.1.length : Int) ∧ gi l.2.1 (gi l.2.1 a) = a ∧ meetV l.1 a (gi l.2.1 a) = leastV l.1)) _ ?_ (eac rfl (eac rfl (eac rfl (eac rfl (eac rfl ean))))) (hac rfl (hac rfl (hac rfl (hac rfl han)))) (fun _ => rfl) rfl ?_
        · exact ⟨(by omega), (by omega), (by intro a; omega)⟩
        rintro x100 ⟨hx1000, hx1001, hA⟩
        change W _ _ _ _ _ _ (envOf [(1, _), (3, _), (98, _), (99, _), (100, .v (.int .i64) x100)]) (hp (pushH (h)) [(1, _), (33, _), (75, _), (82, _)])
        refine W.lenV 98 rfl (fun hl_4 => ?_)
        unfold lenMax at hl_4
        try simp only [gi_eq, Er_eq, E_eq, tabV_len] at hl_4
        refine W.seq ?_
        refine W.region ?_
        refine W.opP rfl (opLss hL rfl rfl).sem rfl (fun c6 => ?_) (fun c6 => ?_)
        · skip
          try simp only [gi_eq, Er_eq, E_eq, tabV_len] at c6
          refine W.end ?_
          refine W.seq ?_
          refine W.condT rfl ?_
          refine W.skip ?_
          refine W.seq ?_
          refine W.block ?_
          refine W.seq ?_
          refine W.region ?_
          refine W.op rfl (opMove rfl).sem rfl ?_
          refine W.op rfl (opIdx hL rfl rfl rfl ?_ ?_).sem rfl ?_
          · first | omega | ((try simp only [gi_eq, Er_eq, E_eq, tabV_len]); first | omega | exact o.sq.hi (by grind) (by grind) (by grind) | grind)
          · first | omega | ((try simp only [gi_eq, Er_eq, E_eq, tabV_len]); first | omega | exact o.sq.hi (by omega) (by omega) (by omega) | exact tab_hi (by omega) (by omega) (by omega) | exact o.sq.hi (by grind) (by grind) (by grind) | grind)
          refine W.op rfl (opLoad hL rfl rfl).sem rfl ?_
          refine W.op rfl (opAssign rfl).sem rfl ?_
          refine W.op rfl (opAssign rfl).sem rfl ?_
          refine W.end ?_
          refine W.seq ?_
          refine W.any [⟨[1], [], none⟩, ⟨[105], [.own 1], none⟩, ⟨[10], [], none⟩, ⟨[106, 107], [], none⟩, ⟨[108], [], none⟩, ⟨[109], [], none⟩, ⟨[1, 110], [], none⟩, ⟨[111, 110], [.own 1], none⟩, ⟨[10, 110], [], none⟩, ⟨[112, 113, 110], [], none⟩, ⟨[114, 110], [], none⟩, ⟨[9, 110], [], none⟩, ⟨[115, 116, 110], [], none⟩, ⟨[110, 117], [], none⟩, ⟨[118], [], none⟩, ⟨[3, 119], [], none⟩, ⟨[120, 119], [], none⟩, ⟨[121, 119], [], none⟩, ⟨[122, 119], [.own 33], none⟩, ⟨[9, 119], [], none⟩, ⟨[123, 124, 119], [.own 75], none⟩, ⟨[125, 119], [.own 75], none⟩, ⟨[10, 119], [], none⟩, ⟨[126, 127, 119], [], none⟩, ⟨[128, 119], [], none⟩, ⟨[3, 119], [], none⟩, ⟨[130, 119], [], none⟩, ⟨[131, 119], [], none⟩, ⟨[132, 119], [.own 33], none⟩, ⟨[129, 133, 119], [], none⟩, ⟨[119, 134], [], none⟩] hM (by kernel_rfl) ?_
          refine AW.op rfl (ARead.sem fun e' h' ha => opFieldBox hL rfl rfl rfl rfl) rfl trivial ?_
          refine AW.op rfl (ARead.sem fun e' h' ha => opLoadBp hL rfl rfl ((ha _ rfl).trans rfl) rfl) rfl trivial ?_
          refine AW.op rfl (ARead.sem fun e' h' ha => opMove rfl) rfl trivial ?_
          refine AW.opP rfl (fun e' h' ha => opCallR [some (.sl (.sl (.int .i64))), some (.int .i64)] rfl (.cons .v (.cons .v .nil)) (c_impl_isAnswer _ _ _)) rfl (fun c7 => ?_) (fun c7 => ?_)
          · skip
            try simp only [gi_eq, Er_eq, E_eq, tabV_len] at c7
            refine AW.op rfl (ARead.sem fun e' h' ha => opUn rfl) rfl trivial ?_
            refine AW.op rfl (ARead.sem fun e' h' ha => opMove rfl) rfl trivial ?_
            refine AW.opG rfl rfl rfl rfl rfl (ARead.sem fun e' h' ha => opFieldBox hL rfl rfl rfl rfl) rfl trivial ?_
            refine AW.opG rfl rfl rfl rfl rfl (ARead.sem fun e' h' ha => opLoadBp hL rfl rfl ((ha _ rfl).trans rfl) rfl) rfl trivial ?_
            refine AW.opG rfl rfl rfl rfl rfl (ARead.sem fun e' h' ha => opMove rfl) rfl trivial ?_
            refine AW.opG rfl rfl rfl rfl rfl (ARead.sem fun e' h' ha => opIdx hL rfl rfl rfl (by clear ha; first | omega | ((try simp only [gi_eq, Er_eq, E_eq, tabV_len]); first | omega | exact o.sq.hi (by grind) (by grind) (by grind) | grind)) (by clear ha; first | omega | ((try simp only [gi_eq, Er_eq, E_eq, tabV_len]); first | omega | exact o.sq.hi (by omega) (by omega) (by omega) | exact tab_hi (by omega) (by omega) (by omega) | exact o.sq.hi (by grind) (by grind) (by grind) | grind))) rfl trivial ?_
            refine AW.opG rfl rfl rfl rfl rfl (ARead.sem fun e' h' ha => opLoad hL rfl rfl) rfl trivial ?_
            refine AW.opG rfl rfl rfl rfl rfl (ARead.sem fun e' h' ha => opMove rfl) rfl trivial ?_
            refine AW.opGP rfl rfl rfl rfl rfl (ARead.sem fun e' h' ha => opNeI hL rfl rfl) rfl (fun c8 => ?_) (fun c8 => ?_)
            · skip
              try simp only [gi_eq, Er_eq, E_eq, tabV_len] at c8
              refine AW.op rfl (ARead.sem fun e' h' ha => opPick rfl) rfl trivial ?_
              refine AW.op rfl (ARead.sem fun e' h' ha => opMove rfl) rfl trivial ?_
              refine AW.off rfl rfl rfl rfl rfl rfl rfl ?_
              refine AW.off rfl rfl rfl rfl rfl rfl rfl ?_
              refine AW.off rfl rfl rfl rfl rfl rfl rfl ?_
              refine AW.off rfl rfl rfl rfl rfl rfl rfl ?_
              refine AW.off rfl rfl rfl rfl rfl rfl rfl ?_
              refine AW.off rfl rfl rfl rfl rfl rfl rfl ?_
              refine AW.off rfl rfl rfl rfl rfl rfl rfl ?_
              refine AW.off rfl rfl rfl rfl rfl rfl rfl ?_
              refine AW.off rfl rfl rfl rfl rfl rfl rfl ?_
              refine AW.off rfl rfl rfl rfl rfl rfl rfl ?_
              refine AW.off rfl rfl rfl rfl rfl rfl rfl ?_
              refine AW.off rfl rfl rfl rfl rfl rfl rfl ?_
              refine AW.off rfl rfl rfl rfl rfl rfl rfl ?_
              refine AW.off rfl rfl rfl rfl rfl rfl rfl ?_
              refine AW.off rfl rfl rfl rfl rfl rfl rfl ?_
              refine AW.op rfl (ARead.sem fun e' h' ha => opPick rfl) rfl trivial ?_
              refine AW.end ?_
              refine W.condT rfl ?_
              refine W.seq ?_
              refine W.region ?_
              refine W.op rfl (opAssign rfl).sem rfl ?_
              refine W.end ?_
              refine W.ret (endsR rfl (.cons (.one .nilp) .nil) ?_ (fun _ => rfl))
              refine one_v ?_
              · first | (rw [toldV_some ⟨lt, hln, fun a h0 h1 => ⟨(hN a h0 h1).1, (hN a h0 h1).2.1⟩, fun a h0 h1 => (hN a h0 h1).2.2.1, fun a b h0 h1 h2 h3 => hB a h0 (by omega) b h2 h3, fun a h0 h1 => (hN a h0 h1).2.2.2⟩]; rfl) | (refine toldV_none (fun k => ?_); have k1 := k.lat; have k2 := k.len; have k3 := k.rng; have k4 := k.inv; have k5 := k.anti; have k6 := k.compl; first | grind | (have := E_tab (f := meetV) (u := l.1) (a := x100) (b := gi l.2.1 x100); grind))
            · skip
              try simp only [gi_eq, Er_eq, E_eq, tabV_len] at c8
              refine AW.op rfl (ARead.sem fun e' h' ha => opPick rfl) rfl trivial ?_
              refine AW.op rfl (ARead.sem fun e' h' ha => opMove rfl) rfl trivial ?_
              refine AW.opG rfl rfl rfl rfl rfl (ARead.sem fun e' h' ha => opMove rfl) rfl trivial ?_
              refine AW.opG rfl rfl rfl rfl rfl (ARead.sem fun e' h' ha => opNilCheck rfl rfl) rfl trivial ?_
              refine AW.opG rfl rfl rfl rfl rfl (ARead.sem fun e' h' ha => opFieldBox hL rfl rfl rfl rfl) rfl trivial ?_
              refine AW.opG rfl rfl rfl rfl rfl (ARead.sem fun e' h' ha => opLoadBp hL rfl rfl ((ha _ rfl).trans rfl) rfl) rfl trivial ?_
              refine AW.opG rfl rfl rfl rfl rfl (ARead.sem fun e' h' ha => opMove rfl) rfl trivial ?_
              refine AW.opG rfl rfl rfl rfl rfl (ARead.sem fun e' h' ha => opIdxRw hL rfl rfl ((ha _ rfl).trans rfl) rfl (by clear ha; first | omega | ((try simp only [gi_eq, Er_eq, E_eq, tabV_len]); first | omega | exact o.sq.hi (by grind) (by grind) (by grind) | grind)) (by clear ha; first | omega | ((try simp only [gi_eq, Er_eq, E_eq, tabV_len]); first | omega | exact o.sq.hi (by omega) (by omega) (by omega) | exact tab_hi (by omega) (by omega) (by omega) | exact o.sq.hi (by grind) (by grind) (by grind) | grind))) rfl trivial ?_
              refine AW.opG rfl rfl rfl rfl rfl (ARead.sem fun e' h' ha => opLoadRp hL rfl rfl ((ha _ rfl).trans rfl)) rfl trivial ?_
              refine AW.opG rfl rfl rfl rfl rfl (ARead.sem fun e' h' ha => opMove rfl) rfl trivial ?_
              refine AW.opG rfl rfl rfl rfl rfl (ARead.sem fun e' h' ha => opIdx hL rfl rfl rfl (by clear ha; first | omega | ((try simp only [gi_eq, Er_eq, E_eq, tabV_len]); first | omega | exact o.sq.hi (by grind) (by grind) (by grind) | grind)) (by clear ha; first | omega | ((try simp only [gi_eq, Er_eq, E_eq, tabV_len]); first | omega | exact o.sq.hi (by omega) (by omega) (by omega) | exact tab_hi (by omega) (by omega) (by omega) | exact o.sq.hi (by grind) (by grind) (by grind) | grind))) rfl trivial ?_
              refine AW.opG rfl rfl rfl rfl rfl (ARead.sem fun e' h' ha => opLoad hL rfl rfl) rfl trivial ?_
              refine AW.opG rfl rfl rfl rfl rfl (ARead.sem fun e' h' ha => opMove rfl) rfl trivial ?_
              refine AW.opG rfl rfl rfl rfl rfl (ARead.sem fun e' h' ha => opNilCheck rfl rfl) rfl trivial ?_
              refine AW.opG rfl rfl rfl rfl rfl (ARead.sem fun e' h' ha => opFieldBox hL rfl rfl rfl rfl) rfl trivial ?_
              refine AW.opG rfl rfl rfl rfl rfl (ARead.sem fun e' h' ha => opLoadBp hL rfl rfl ((ha _ rfl).trans rfl) rfl) rfl trivial ?_
              refine AW.opGP rfl rfl rfl rfl rfl (ARead.sem fun e' h' ha => opNeI hL rfl rfl) rfl (fun c9 => ?_) (fun c9 => ?_)
              · skip
                try simp only [gi_eq, Er_eq, E_eq, tabV_len] at c9
                refine AW.op rfl (ARead.sem fun e' h' ha => opPick rfl) rfl trivial ?_
                refine AW.end ?_
                refine W.condT rfl ?_
                refine W.seq ?_
                refine W.region ?_
                refine W.op rfl (opAssign rfl).sem rfl ?_
                refine W.end ?_
                refine W.ret (endsR rfl (.cons (.one .nilp) .nil) ?_ (fun _ => rfl))
                refine one_v ?_
                · first | (rw [toldV_some ⟨lt, hln, fun a h0 h1 => ⟨(hN a h0 h1).1, (hN a h0 h1).2.1⟩, fun a h0 h1 => (hN a h0 h1).2.2.1, fun a b h0 h1 h2 h3 => hB a h0 (by omega) b h2 h3, fun a h0 h1 => (hN a h0 h1).2.2.2⟩]; rfl) | (refine toldV_none (fun k => ?_); have k1 := k.lat; have k2 := k.len; have k3 := k.rng; have k4 := k.inv; have k5 := k.anti; have k6 := k.compl; first | grind | (have := E_tab (f := meetV) (u := l.1) (a := x100) (b := gi l.2.1 x100); grind))
              · skip
                try simp only [gi_eq, Er_eq, E_eq, tabV_len] at c9
                refine AW.op rfl (ARead.sem fun e' h' ha => opPick rfl) rfl trivial ?_
                refine AW.end ?_
                refine W.condF rfl ?_
                refine W.skip ?_
                refine W.blk ?_
                refine W.region ?_
                refine W.op rfl (opAdd hL rfl rfl ?_).sem rfl ?_
                · unfold In64; first | omega | ((try simp only [gi_eq, Er_eq, E_eq, tabV_len]); first | omega | grind)
                refine W.op rfl (opMove rfl).sem rfl ?_
                refine W.end ?_
                refine W.nx G0up _ (eac rfl (eac rfl (eac rfl (eac rfl (eac rfl ean))))) (hac rfl (hac rfl (hac rfl (hac rfl han)))) (fun _ => rfl) rfl ?_ ?_
                · try dsimp only
                  omega
                · exact ⟨(by omega), (by omega), (by (try simp only [gi_eq, Er_eq, E_eq, tabV_len]); exact step_lt hA (by have := E_tab (f := meetV) (u := l.1) (a := x100) (b := gi l.2.1 x100); grind))⟩
          · skip
            try simp only [gi_eq, Er_eq, E_eq, tabV_len] at c7
            refine AW.op rfl (ARead.sem fun e' h' ha => opUn rfl) rfl trivial ?_
            refine AW.op rfl (ARead.sem fun e' h' ha => opMove rfl) rfl trivial ?_
            refine AW.off rfl rfl rfl rfl rfl rfl rfl ?_
            refine AW.off rfl rfl rfl rfl rfl rfl rfl ?_
            refine AW.off rfl rfl rfl rfl rfl rfl rfl ?_
            refine AW.off rfl rfl rfl rfl rfl rfl rfl ?_
            refine AW.off rfl rfl rfl rfl rfl rfl rfl ?_
            refine AW.off rfl rfl rfl rfl rfl rfl rfl ?_
            refine AW.off rfl rfl rfl rfl rfl rfl rfl ?_
            refine AW.op rfl (ARead.sem fun e' h' ha => opPick rfl) rfl trivial ?_
            refine AW.op rfl (ARead.sem fun e' h' ha => opMove rfl) rfl trivial ?_
            refine AW.off rfl rfl rfl rfl rfl rfl rfl ?_
            refine AW.off rfl rfl rfl rfl rfl rfl rfl ?_
            refine AW.off rfl rfl rfl rfl rfl rfl rfl ?_
            refine AW.off rfl rfl rfl rfl rfl rfl rfl ?_
            refine AW.off rfl rfl rfl rfl rfl rfl rfl ?_
            refine AW.off rfl rfl rfl rfl rfl rfl rfl ?_
            refine AW.off rfl rfl rfl rfl rfl rfl rfl ?_
            refine AW.off rfl rfl rfl rfl rfl rfl rfl ?_
            refine AW.off rfl rfl rfl rfl rfl rfl rfl ?_
            refine AW.off rfl rfl rfl rfl rfl rfl rfl ?_
            refine AW.off rfl rfl rfl rfl rfl rfl rfl ?_
            refine AW.off rfl rfl rfl rfl rfl rfl rfl ?_
            refine AW.off rfl rfl rfl rfl rfl rfl rfl ?_
            refine AW.off rfl rfl rfl rfl rfl rfl rfl ?_
            refine AW.off rfl rfl rfl rfl rfl rfl rfl ?_
            refine AW.op rfl (ARead.sem fun e' h' ha => opPick rfl) rfl trivial ?_
            refine AW.end ?_
            refine W.condT rfl ?_
            refine W.seq ?_
            refine W.region ?_
            refine W.op rfl (opAssign rfl).sem rfl ?_
            refine W.end ?_
            refine W.ret (endsR rfl (.cons (.one .nilp) .nil) ?_ (fun _ => rfl))
            refine one_v ?_
            · first | (rw [toldV_some ⟨lt, hln, fun a h0 h1 => ⟨(hN a h0 h1).1, (hN a h0 h1).2.1⟩, fun a h0 h1 => (hN a h0 h1).2.2.1, fun a b h0 h1 h2 h3 => hB a h0 (by omega) b h2 h3, fun a h0 h1 => (hN a h0 h1).2.2.2⟩]; rfl) | (refine toldV_none (fun k => ?_); have k1 := k.lat; have k2 := k.len; have k3 := k.rng; have k4 := k.inv; have k5 := k.anti; have k6 := k.compl; first | grind | (have := E_tab (f := meetV) (u := l.1) (a := x100) (b := gi l.2.1 x100); grind))
        · skip
          try simp only [gi_eq, Er_eq, E_eq, tabV_len] at c6
          refine W.end ?_
          refine W.seq ?_
          refine W.condF rfl ?_
          refine W.exit rfl ?_
          refine W.seq ?_
          refine W.seq ?_
          refine W.region ?_
          refine W.op rfl (opFieldBox hL rfl rfl rfl rfl).sem rfl ?_
          refine W.op rfl (opLoadBp hL rfl rfl rfl rfl).sem rfl ?_
          refine W.op rfl (opLen hL rfl rfl).sem rfl ?_
          refine W.op rfl (opMove rfl).sem rfl ?_
          refine W.end ?_
          refine W.block ?_
          have hN : ∀ a : Int, 0 ≤ a → a < (l.1.length : Int) → 0 ≤ gi l.2.1 a ∧ gi l.2.1 a < (l.1.length : Int) ∧ gi l.2.1 (gi l.2.1 a) = a ∧ meetV l.1 a (gi l.2.1 a) = leastV l.1 := fun a h0 h1 => hA a h0 (by omega)
          refine W.lp G0up [(1, _), (3, _), (138, _), (139, _)] [(1, _), (33, _), (75, _), (82, _)] (fun (x140 : Int) => [(140, .v (.int .i64) x140)]) (fun (x140 : Int) => []) (fun (x140 : Int) => h) (fun (x140 : Int) => ((l.1.length : Int) - x140).toNat) (fun (x140 : Int) => (0 ≤ x140) ∧ (x140 ≤ (l.1.length : Int)) ∧ (∀ a : Int, 0 ≤ a → a < x140 → ∀ b : Int, 0 ≤ b → b < (l.1.length : Int) → E l.1 a b = 1 → E l.1 (gi l.2.1 b) (gi l.2.1 a) = 1)) _ ?_ (eac rfl (eac rfl (eac rfl (eac rfl (eac rfl ean))))) (hac rfl (hac rfl (hac rfl (hac rfl han)))) (fun _ => rfl) rfl ?_
          · exact ⟨(by omega), (by omega), (by intro a; omega)⟩
          rintro x140 ⟨hx1400, hx1401, hB⟩
          change W _ _ _ _ _ _ (envOf [(1, _), (3, _), (138, _), (139, _), (140, .v (.int .i64) x140)]) (hp (pushH (h)) [(1, _), (33, _), (75, _), (82, _)])
          refine W.lenV 138 rfl (fun hl_6 => ?_)
          unfold lenMax at hl_6
          try simp only [gi_eq, Er_eq, E_eq, tabV_len] at hl_6
          refine W.seq ?_
          refine W.region ?_
          refine W.opP rfl (opLss hL rfl rfl).sem rfl (fun c10 => ?_) (fun c10 => ?_)
          · skip
            try simp only [gi_eq, Er_eq, E_eq, tabV_len] at c10
            refine W.end ?_
            refine W.seq ?_
            refine W.condT rfl ?_
            refine W.skip ?_
            refine W.seq ?_
            refine W.block ?_
            refine W.seq ?_
            refine W.region ?_
            refine W.op rfl (opMove rfl).sem rfl ?_
            refine W.op rfl (opIdx hL rfl rfl rfl ?_ ?_).sem rfl ?_
            · first | omega | ((try simp only [gi_eq, Er_eq, E_eq, tabV_len]); first | omega | exact o.sq.hi (by grind) (by grind) (by grind) | grind)
            · first | omega | ((try simp only [gi_eq, Er_eq, E_eq, tabV_len]); first | omega | exact o.sq.hi (by omega) (by omega) (by omega) | exact tab_hi (by omega) (by omega) (by omega) | exact o.sq.hi (by grind) (by grind) (by grind) | grind)
            refine W.op rfl (opLoad hL rfl rfl).sem rfl ?_
            refine W.op rfl (opAssign rfl).sem rfl ?_
            refine W.op rfl (opAssign rfl).sem rfl ?_
            refine W.end ?_
            refine W.seq ?_
            refine W.region ?_
            refine W.op rfl (opMove rfl).sem rfl ?_
            refine W.op rfl (opLen hL rfl rfl).sem rfl ?_
            refine W.op rfl (opMove rfl).sem rfl ?_
            refine W.end ?_
            refine W.block ?_
            refine W.lp G0up [(1, _), (3, _), (11, _), (138, _), (139, _), (140, _), (145, _), (146, _)] [(1, _), (33, _), (75, _), (82, _)] (fun (x147 : Int) => [(147, .v (.int .i64) x147)]) (fun (x147 : Int) => []) (fun (x147 : Int) => h) (fun (x147 : Int) => ((((List.getD l.1 (Int.toNat x140) (Ty.dflt (.sl (.int .i64))))).length : Int) - x147).toNat) (fun (x147 : Int) => (0 ≤ x147) ∧ (x147 ≤ (((List.getD l.1 (Int.toNat x140) (Ty.dflt (.sl (.int .i64))))).length : Int)) ∧ (∀ b : Int, 0 ≤ b → b < x147 → E l.1 x140 b = 1 → E l.1 (gi l.2.1 b) (gi l.2.1 x140) = 1)) _ ?_ (eac rfl (eac rfl (eac rfl (eac rfl (eac rfl (eac rfl (eac rfl (eac rfl (eac rfl ean))))))))) (hac rfl (hac rfl (hac rfl (hac rfl han)))) (fun _ => rfl) rfl ?_
            · exact ⟨(by omega), (by omega), (by intro b; omega)⟩
            rintro x147 ⟨hx1470, hx1471, hC⟩
            change W _ _ _ _ _ _ (envOf [(1, _), (3, _), (11, _), (138, _), (139, _), (140, _), (145, _), (146, _), (147, .v (.int .i64) x147)]) (hp (pushH (h)) [(1, _), (33, _), (75, _), (82, _)])
            refine W.lenV 145 rfl (fun hl_8 => ?_)
            unfold lenMax at hl_8
            try simp only [gi_eq, Er_eq, E_eq, tabV_len] at hl_8
            try simp only [gi_eq, Er_eq, E_eq, tabV_len] at hx1471
            have hq := o.sq x140 (by omega) (by omega)
            refine W.seq ?_
            refine W.region ?_
            refine W.opP rfl (opLss hL rfl rfl).sem rfl (fun c11 => ?_) (fun c11 => ?_)
            · skip
              try simp only [gi_eq, Er_eq, E_eq, tabV_len] at c11
              refine W.end ?_
              refine W.seq ?_
              refine W.condT rfl ?_
              refine W.skip ?_
              refine W.seq ?_
              refine W.block ?_
              refine W.seq ?_
              refine W.region ?_
              refine W.op rfl (opMove rfl).sem rfl ?_
              refine W.op rfl (opIdx hL rfl rfl rfl ?_ ?_).sem rfl ?_
              · first | omega | ((try simp only [gi_eq, Er_eq, E_eq, tabV_len]); first | omega | exact o.sq.hi (by grind) (by grind) (by grind) | grind)
              · first | omega | ((try simp only [gi_eq, Er_eq, E_eq, tabV_len]); first | omega | exact o.sq.hi (by omega) (by omega) (by omega) | exact tab_hi (by omega) (by omega) (by omega) | exact o.sq.hi (by grind) (by grind) (by grind) | grind)
              refine W.op rfl (opLoad hL rfl rfl).sem rfl ?_
              refine W.op rfl (opAssign rfl).sem rfl ?_
              refine W.op rfl (opAssign rfl).sem rfl ?_
              refine W.end ?_
              refine W.seq ?_
              refine W.jr [(1, _), (3, _), (11, _), (138, _), (139, _), (140, _), (145, _), (146, _), (147, _)] [(1, _), (33, _), (75, _), (82, _)] (fun (q172 : Bool) => [(172, .v .bool q172)]) (fun (q172 : Bool) => (q172 = true ↔ (((List.getD ((List.getD l.1 (Int.toNat x140) (Ty.dflt (.sl (.int .i64))))) (Int.toNat x147) (Ty.dflt (.int .i64)))) = 1) ∧ (((List.getD ((List.getD l.1 (Int.toNat ((List.getD l.2.1 (Int.toNat x147) (Ty.dflt (.int .i64))))) (Ty.dflt (.sl (.int .i64))))) (Int.toNat ((List.getD l.2.1 (Int.toNat x140) (Ty.dflt (.int .i64))))) (Ty.dflt (.int .i64)))) ≠ 1))) (eac rfl (eac rfl (eac rfl (eac rfl (eac rfl (eac rfl (eac rfl (eac rfl (eac rfl ean))))))))) (hac rfl (hac rfl (hac rfl (hac rfl han)))) (fun _ => rfl) ?_ ?_
              · skip
                refine W.any [⟨[14], [], none⟩, ⟨[152], [], none⟩, ⟨[153], [], none⟩, ⟨[1, 154], [], none⟩, ⟨[155, 154], [.own 1], none⟩, ⟨[1, 154], [], none⟩, ⟨[157, 154], [.own 1], none⟩, ⟨[13, 154], [], none⟩, ⟨[158, 159, 154], [], none⟩, ⟨[160, 154], [], none⟩, ⟨[156, 161, 154], [], none⟩, ⟨[162, 154], [], none⟩, ⟨[1, 154], [], none⟩, ⟨[164, 154], [.own 1], none⟩, ⟨[11, 154], [], none⟩, ⟨[165, 166, 154], [], none⟩, ⟨[167, 154], [], none⟩, ⟨[163, 168, 154], [], none⟩, ⟨[169, 154], [], none⟩, ⟨[170, 154], [], none⟩, ⟨[154, 171], [], none⟩] hM (by kernel_rfl) ?_
                refine AW.op rfl (ARead.sem fun e' h' ha => opMove rfl) rfl trivial ?_
                refine AW.opP rfl (ARead.sem fun e' h' ha => opEqI hL rfl rfl) rfl (fun c12 => ?_) (fun c12 => ?_)
                · skip
                  try simp only [gi_eq, Er_eq, E_eq, tabV_len] at c12
                  refine AW.op rfl (ARead.sem fun e' h' ha => opMove rfl) rfl trivial ?_
                  refine AW.opG rfl rfl rfl rfl rfl (ARead.sem fun e' h' ha => opFieldBox hL rfl rfl rfl rfl) rfl trivial ?_
                  refine AW.opG rfl rfl rfl rfl rfl (ARead.sem fun e' h' ha => opLoadBp hL rfl rfl ((ha _ rfl).trans rfl) rfl) rfl trivial ?_
                  refine AW.opG rfl rfl rfl rfl rfl (ARead.sem fun e' h' ha => opFieldBox hL rfl rfl rfl rfl) rfl trivial ?_
                  refine AW.opG rfl rfl rfl rfl rfl (ARead.sem fun e' h' ha => opLoadBp hL rfl rfl ((ha _ rfl).trans rfl) rfl) rfl trivial ?_
                  refine AW.opG rfl rfl rfl rfl rfl (ARead.sem fun e' h' ha => opMove rfl) rfl trivial ?_
                  refine AW.opG rfl rfl rfl rfl rfl (ARead.sem fun e' h' ha => opIdx hL rfl rfl rfl (by clear ha; first | omega | ((try simp only [gi_eq, Er_eq, E_eq, tabV_len]); first | omega | exact o.sq.hi (by grind) (by grind) (by grind) | grind)) (by clear ha; first | omega | ((try simp only [gi_eq, Er_eq, E_eq, tabV_len]); first | omega | exact o.sq.hi (by omega) (by omega) (by omega) | exact tab_hi (by omega) (by omega) (by omega) | exact o.sq.hi (by grind) (by grind) (by grind) | grind))) rfl trivial ?_
                  refine AW.opG rfl rfl rfl rfl rfl (ARead.sem fun e' h' ha => opLoad hL rfl rfl) rfl trivial ?_
                  refine AW.opG rfl rfl rfl rfl rfl (ARead.sem fun e' h' ha => opIdx hL rfl rfl rfl (by clear ha; first | omega | ((try simp only [gi_eq, Er_eq, E_eq, tabV_len]); first | omega | exact o.sq.hi (by grind) (by grind) (by grind) | grind)) (by clear ha; first | omega | ((try simp only [gi_eq, Er_eq, E_eq, tabV_len]); first | omega | exact o.sq.hi (by omega) (by omega) (by omega) | exact tab_hi (by omega) (by omega) (by omega) | exact o.sq.hi (by grind) (by grind) (by grind) | grind))) rfl trivial ?_
                  refine AW.opG rfl rfl rfl rfl rfl (ARead.sem fun e' h' ha => opLoad hL rfl rfl) rfl trivial ?_
                  refine AW.opG rfl rfl rfl rfl rfl (ARead.sem fun e' h' ha => opFieldBox hL rfl rfl rfl rfl) rfl trivial ?_
                  refine AW.opG rfl rfl rfl rfl rfl (ARead.sem fun e' h' ha => opLoadBp hL rfl rfl ((ha _ rfl).trans rfl) rfl) rfl trivial ?_
                  refine AW.opG rfl rfl rfl rfl rfl (ARead.sem fun e' h' ha => opMove rfl) rfl trivial ?_
                  refine AW.opG rfl rfl rfl rfl rfl (ARead.sem fun e' h' ha => opIdx hL rfl rfl rfl (by clear ha; first | omega | ((try simp only [gi_eq, Er_eq, E_eq, tabV_len]); first | omega | exact o.sq.hi (by grind) (by grind) (by grind) | grind)) (by clear ha; first | omega | ((try simp only [gi_eq, Er_eq, E_eq, tabV_len]); first | omega | exact o.sq.hi (by omega) (by omega) (by omega) | exact tab_hi (by omega) (by omega) (by omega) | exact o.sq.hi (by grind) (by grind) (by grind) | grind))) rfl trivial ?_
                  refine AW.opG rfl rfl rfl rfl rfl (ARead.sem fun e' h' ha => opLoad hL rfl rfl) rfl trivial ?_
                  refine AW.opG rfl rfl rfl rfl rfl (ARead.sem fun e' h' ha => opIdx hL rfl rfl rfl (by clear ha; first | omega | ((try simp only [gi_eq, Er_eq, E_eq, tabV_len]); first | omega | exact o.sq.hi (by grind) (by grind) (by grind) | grind)) (by clear ha; first | omega | ((try simp only [gi_eq, Er_eq, E_eq, tabV_len]); first | omega | exact o.sq.hi (by omega) (by omega) (by omega) | exact tab_hi (by omega) (by omega) (by omega) | exact o.sq.hi (by grind) (by grind) (by grind) | grind))) rfl trivial ?_
                  refine AW.opG rfl rfl rfl rfl rfl (ARead.sem fun e' h' ha => opLoad hL rfl rfl) rfl trivial ?_
                  refine AW.opGP rfl rfl rfl rfl rfl (ARead.sem fun e' h' ha => opNeI hL rfl rfl) rfl (fun c13 => ?_) (fun c13 => ?_)
                  · skip
                    try simp only [gi_eq, Er_eq, E_eq, tabV_len] at c13
                    refine AW.op rfl (ARead.sem fun e' h' ha => opPick rfl) rfl trivial ?_
                    refine AW.end ?_
                    refine W.jx G0up _ (eac rfl (eac rfl (eac rfl (eac rfl (eac rfl (eac rfl (eac rfl (eac rfl (eac rfl (eac rfl ean)))))))))) (hac rfl (hac rfl (hac rfl (hac rfl han)))) (fun _ => rfl) rfl ?_
                    · clear h; (try simp only [gi_eq, Er_eq, E_eq, tabV_len]); grind
                  · skip
                    try simp only [gi_eq, Er_eq, E_eq, tabV_len] at c13
                    refine AW.op rfl (ARead.sem fun e' h' ha => opPick rfl) rfl trivial ?_
                    refine AW.end ?_
                    refine W.jx G0up _ (eac rfl (eac rfl (eac rfl (eac rfl (eac rfl (eac rfl (eac rfl (eac rfl (eac rfl (eac rfl ean)))))))))) (hac rfl (hac rfl (hac rfl (hac rfl han)))) (fun _ => rfl) rfl ?_
                    · clear h; (try simp only [gi_eq, Er_eq, E_eq, tabV_len]); grind
                · skip
                  try simp only [gi_eq, Er_eq, E_eq, tabV_len] at c12
                  refine AW.op rfl (ARead.sem fun e' h' ha => opMove rfl) rfl trivial ?_
                  refine AW.off rfl rfl rfl rfl rfl rfl rfl ?_
                  refine AW.off rfl rfl rfl rfl rfl rfl rfl ?_
                  refine AW.off rfl rfl rfl rfl rfl rfl rfl ?_
                  refine AW.off rfl rfl rfl rfl rfl rfl rfl ?_
                  refine AW.off rfl rfl rfl rfl rfl rfl rfl ?_
                  refine AW.off rfl rfl rfl rfl rfl rfl rfl ?_
                  refine AW.off rfl rfl rfl rfl rfl rfl rfl ?_
                  refine AW.off rfl rfl rfl rfl rfl rfl rfl ?_
                  refine AW.off rfl rfl rfl rfl rfl rfl rfl ?_
                  refine AW.off rfl rfl rfl rfl rfl rfl rfl ?_
                  refine AW.off rfl rfl rfl rfl rfl rfl rfl ?_
                  refine AW.off rfl rfl rfl rfl rfl rfl rfl ?_
                  refine AW.off rfl rfl rfl rfl rfl rfl rfl ?_
                  refine AW.off rfl rfl rfl rfl rfl rfl rfl ?_
                  refine AW.off rfl rfl rfl rfl rfl rfl rfl ?_
                  refine AW.off rfl rfl rfl rfl rfl rfl rfl ?_
                  refine AW.off rfl rfl rfl rfl rfl rfl rfl ?_
                  refine AW.op rfl (ARead.sem fun e' h' ha => opPick rfl) rfl trivial ?_
                  refine AW.end ?_
                  refine W.jx G0up _ (eac rfl (eac rfl (eac rfl (eac rfl (eac rfl (eac rfl (eac rfl (eac rfl (eac rfl (eac rfl ean)))))))))) (hac rfl (hac rfl (hac rfl (hac rfl han)))) (fun _ => rfl) rfl ?_
                  · clear h; (try simp only [gi_eq, Er_eq, E_eq, tabV_len]); grind
              · rintro q172 J172
                try simp only [gi_eq, Er_eq, E_eq, tabV_len] at J172
                change W _ _ _ _ _ _ (envOf [(1, _), (3, _), (11, _), (138, _), (139, _), (140, _), (145, _), (146, _), (147, _), (172, .v .bool q172)]) (hp (pushH (h)) [(1, _), (33, _), (75, _), (82, _)])
                refine W.condJ rfl J172 (fun c14 => ?_) (fun c14 => ?_)
                · skip
                  try simp only [gi_eq, Er_eq, E_eq, tabV_len] at c14
                  refine W.seq ?_
                  refine W.region ?_
                  refine W.op rfl (opAssign rfl).sem rfl ?_
                  refine W.end ?_
                  refine W.ret (endsR rfl (.cons (.one .nilp) .nil) ?_ (fun _ => rfl))
                  refine one_v ?_
                  · first | (rw [toldV_some ⟨lt, hln, fun a h0 h1 => ⟨(hN a h0 h1).1, (hN a h0 h1).2.1⟩, fun a h0 h1 => (hN a h0 h1).2.2.1, fun a b h0 h1 h2 h3 => hB a h0 (by omega) b h2 h3, fun a h0 h1 => (hN a h0 h1).2.2.2⟩]; rfl) | (refine toldV_none (fun k => ?_); have k1 := k.lat; have k2 := k.len; have k3 := k.rng; have k4 := k.inv; have k5 := k.anti; have k6 := k.compl; first | grind | (have := E_tab (f := meetV) (u := l.1) (a := x100) (b := gi l.2.1 x100); grind))
                · skip
                  try simp only [gi_eq, Er_eq, E_eq, tabV_len] at c14
                  refine W.skip ?_
                  refine W.blk ?_
                  refine W.region ?_
                  refine W.op rfl (opAdd hL rfl rfl ?_).sem rfl ?_
                  · unfold In64; first | omega | ((try simp only [gi_eq, Er_eq, E_eq, tabV_len]); first | omega | grind)
                  refine W.op rfl (opMove rfl).sem rfl ?_
                  refine W.end ?_
                  refine W.nx G0up _ (eac rfl (eac rfl (eac rfl (eac rfl (eac rfl (eac rfl (eac rfl (eac rfl (eac rfl ean))))))))) (hac rfl (hac rfl (hac rfl (hac rfl han)))) (fun _ => rfl) rfl ?_ ?_
                  · try dsimp only
                    (try simp only [gi_eq, Er_eq, E_eq, tabV_len]); omega
                  · exact ⟨(by omega), (by (try simp only [gi_eq, Er_eq, E_eq, tabV_len]); (try simp only [gi_eq, Er_eq, E_eq, tabV_len]); omega), (by (try simp only [gi_eq, Er_eq, E_eq, tabV_len]); exact step_lt hC (by grind))⟩
            · skip
              try simp only [gi_eq, Er_eq, E_eq, tabV_len] at c11
              refine W.end ?_
              refine W.seq ?_
              refine W.condF rfl ?_
              refine W.exit rfl ?_
              refine W.blk ?_
              refine W.region ?_
              refine W.op rfl (opAdd hL rfl rfl ?_).sem rfl ?_
              · unfold In64; first | omega | ((try simp only [gi_eq, Er_eq, E_eq, tabV_len]); first | omega | grind)
              refine W.op rfl (opMove rfl).sem rfl ?_
              refine W.end ?_
              refine W.nx G0up _ (eac rfl (eac rfl (eac rfl (eac rfl (eac rfl ean))))) (hac rfl (hac rfl (hac rfl (hac rfl han)))) (fun _ => rfl) rfl ?_ ?_
              · try dsimp only
                omega
              · exact ⟨(by omega), (by omega), (by (try simp only [gi_eq, Er_eq, E_eq, tabV_len]); exact step_lt hB (by have hq := o.sq x140 (by omega) (by omega); exact fun b h0 h1 => hC b h0 (by omega)))⟩
          · skip
            try simp only [gi_eq, Er_eq, E_eq, tabV_len] at c10
            refine W.end ?_
            refine W.seq ?_
            refine W.condF rfl ?_
            refine W.exit rfl ?_
            refine W.seq ?_
            refine W.any [⟨[3], [], none⟩, ⟨[1], [], none⟩, ⟨[176], [.own 1], none⟩, ⟨[3], [], none⟩, ⟨[178], [], none⟩, ⟨[179], [], none⟩, ⟨[180], [.own 33], none⟩, ⟨[177, 181], [], none⟩, ⟨[182], [], none⟩, ⟨[175], [], none⟩, ⟨[184], [], none⟩, ⟨[183, 185], [.own 33], some (.own 33)⟩] hM (by kernel_rfl) ?_
            refine AW.op rfl (ARead.sem fun e' h' ha => opMove rfl) rfl trivial ?_
            refine AW.op rfl (ARead.sem fun e' h' ha => opFieldBox hL rfl rfl rfl rfl) rfl trivial ?_
            refine AW.op rfl (ARead.sem fun e' h' ha => opLoadBp hL rfl rfl ((ha _ rfl).trans rfl) rfl) rfl trivial ?_
            refine AW.op rfl (ARead.sem fun e' h' ha => opMove rfl) rfl trivial ?_
            refine AW.op rfl (ARead.sem fun e' h' ha => opNilCheck rfl rfl) rfl trivial ?_
            refine AW.op rfl (ARead.sem fun e' h' ha => opFieldBox hL rfl rfl rfl rfl) rfl trivial ?_
            refine AW.op rfl (ARead.sem fun e' h' ha => opLoadBp hL rfl rfl ((ha _ rfl).trans rfl) rfl) rfl trivial ?_
            refine AW.op rfl (ARead.sem fun e' h' ha => opIdx hL rfl rfl rfl (by clear ha; first | omega | ((try simp only [gi_eq, Er_eq, E_eq, tabV_len]); first | omega | exact o.sq.hi (by grind) (by grind) (by grind) | grind)) (by clear ha; first | omega | ((try simp only [gi_eq, Er_eq, E_eq, tabV_len]); first | omega | exact o.sq.hi (by omega) (by omega) (by omega) | exact tab_hi (by omega) (by omega) (by omega) | exact o.sq.hi (by grind) (by grind) (by grind) | grind))) rfl trivial ?_
            refine AW.op rfl (ARead.sem fun e' h' ha => opLoad hL rfl rfl) rfl trivial ?_
            refine AW.op rfl (ARead.sem fun e' h' ha => opNilCheck rfl rfl) rfl trivial ?_
            refine AW.op rfl (ARead.sem fun e' h' ha => opFieldBox hL rfl rfl rfl rfl) rfl trivial ?_
            refine AW.op (eff := some (.own 33, _)) (v := .dead) rfl (fun e' h' ha => opStore hL rfl rfl ((ha _ rfl).trans rfl) rfl (okBs_ok rfl) rfl rfl rfl) rfl rfl ?_
            refine AW.end ?_
            refine W.seq ?_
            refine W.region ?_
            refine W.op rfl (opMove rfl).sem rfl ?_
            refine W.op rfl (opAssign rfl).sem rfl ?_
            refine W.end ?_
            refine W.ret (endsR rfl (.cons (.box rfl (.cons (.one .sl) (.cons (.one (.rw rfl)) (.cons (.one (.rw rfl)) (.cons (.one .sl) (.cons (.one .int) (.cons (.one .int) .nil)))))) rfl) .nil) ?_ (fun _ => rfl))
            refine one_v ?_
            · first | (rw [toldV_some ⟨lt, hln, fun a h0 h1 => ⟨(hN a h0 h1).1, (hN a h0 h1).2.1⟩, fun a h0 h1 => (hN a h0 h1).2.2.1, fun a b h0 h1 h2 h3 => hB a h0 (by omega) b h2 h3, fun a h0 h1 => (hN a h0 h1).2.2.2⟩]; rfl) | (refine toldV_none (fun k => ?_); have k1 := k.lat; have k2 := k.len; have k3 := k.rng; have k4 := k.inv; have k5 := k.anti; have k6 := k.compl; first | grind | (have := E_tab (f := meetV) (u := l.1) (a := x100) (b := gi l.2.1 x100); grind))
end Go.Vs

set_option linter.unusedVariables false
set_option linter.unusedSimpArgs false
set_option maxRecDepth 20000
set_option maxHeartbeats 4000000
namespace Go.Vs
open Go Go.RowKit Go.Proofs
open Classical
theorem c_impl_LogicOk (l : ((List (List Int)) × (List Int) × Unit))  (h : Heap) : FnRes Try.prog G0 26 [.v (.cons (.sl (.sl (.int .i64))) (.cons (.sl (.int .i64)) .nil)) l] h (.v .bool (decide (IsLog l))) h := by
  refine FnRes.intro (N := 6) (rs := [.tmp 2]) [some .bool] hL G0up Try.func26 rfl rfl rfl rfl rfl ?_
  refine W.seq ?_
  refine W.region ?_
  refine W.op rfl (opBoxV rfl rfl rfl) rfl ?_
  refine W.op rfl (opAssign rfl).sem rfl ?_
  refine W.end ?_
  refine W.seq ?_
  refine W.region ?_
  refine W.op rfl (opLoadBp hL rfl rfl rfl rfl).sem rfl ?_
  refine W.op rfl (opCallR [some (.cons (.sl (.sl (.int .i64))) (.cons (.sl (.int .i64)) .nil))] rfl (.cons (.agg rfl (.cons (.one .sl) (.cons (.one .sl) .nil))) .nil) (c_impl_told _ _)) rfl ?_
  refine W.opP rfl (opPtrNe hL rfl rfl rfl).sem rfl (fun c1 => ?_) (fun c1 => ?_)
  · skip
    refine W.op rfl (opAssign rfl).sem rfl ?_
    refine W.end ?_
    refine W.ret (endsR rfl (.cons .v .nil) ?_ (fun _ => rfl))
    refine one_t ?_
    · exact told_ne.1 (by assumption)
  · skip
    refine W.op rfl (opAssign rfl).sem rfl ?_
    refine W.end ?_
    refine W.ret (endsR rfl (.cons .v .nil) ?_ (fun _ => rfl))
    refine one_f ?_
    · exact fun k => (by assumption : ¬ _) (told_ne.2 k)
theorem c_spec_LogicOk (l : ((List (List Int)) × (List Int) × Unit))  (h : Heap) : FnRes Try.prog G0 59 [.v (.cons (.sl (.sl (.int .i64))) (.cons (.sl (.int .i64)) .nil)) l] h (.v .bool (decide (IsLog l))) h := by
  refine FnRes.intro (N := 105) (rs := [.tmp 2]) [some .bool] hL G0up Try.func59 rfl rfl rfl rfl rfl ?_
  refine W.seq ?_
  refine W.region ?_
  refine W.op rfl (opBoxV rfl rfl rfl) rfl ?_
  refine W.op rfl (opAssign rfl).sem rfl ?_
  refine W.end ?_
  refine W.seq ?_
  refine W.region ?_
  refine W.op rfl (opFieldBox hL rfl rfl rfl rfl).sem rfl ?_
  refine W.op rfl (opLoadBp hL rfl rfl rfl rfl).sem rfl ?_
  refine W.op rfl (opLen hL rfl rfl).sem rfl ?_
  refine W.op rfl (opAssign rfl).sem rfl ?_
  refine W.end ?_
  refine W.seq ?_
  refine W.seq ?_
  refine W.jr [(1, _), (3, _)] [(1, _)] (fun (q22 : Bool) => [(22, .v .bool q22)]) (fun (q22 : Bool) => (q22 = true ↔ (¬ ((IsLat l.1))) ∨ (((l.2.1.length : Int)) ≠ ((l.1.length : Int))))) (eac rfl (eac rfl ean)) (hac rfl han) (fun _ => rfl) ?_ ?_
  · skip
    refine W.region ?_
    refine W.op rfl (opFieldBox hL rfl rfl rfl rfl).sem rfl ?_
    refine W.op rfl (opLoadBp hL rfl rfl rfl rfl).sem rfl ?_
    refine W.opP rfl (opCallR [some (.sl (.sl (.int .i64)))] rfl (.cons .v .nil) (c_spec_LatticeOk _ _)) rfl (fun c1 => ?_) (fun c1 => ?_)
    · skip
      try simp only [gi_eq, Er_eq, E_eq, gL_eq] at c1
      refine W.op rfl (opUn rfl).sem rfl ?_
      refine W.op rfl (opMove rfl).sem rfl ?_
      refine W.opG rfl rfl rfl rfl (opFieldBox hL rfl rfl rfl rfl).sem rfl ?_
      refine W.opG rfl rfl rfl rfl (opLoadBp hL rfl rfl rfl rfl).sem rfl ?_
      refine W.opG rfl rfl rfl rfl (opLen hL rfl rfl).sem rfl ?_
      refine W.opG rfl rfl rfl rfl (opMove rfl).sem rfl ?_
      refine W.opGP rfl rfl rfl rfl (opNeI hL rfl rfl).sem rfl (fun c2 => ?_) (fun c2 => ?_)
      · skip
        try simp only [gi_eq, Er_eq, E_eq, gL_eq] at c2
        refine W.op rfl (opPick rfl).sem rfl ?_
        refine W.end ?_
        refine W.jx G0up _ (eac rfl (eac rfl (eac rfl ean))) (hac rfl han) (fun _ => rfl) rfl ?_
        · clear h; (try simp only [gi_eq, Er_eq, E_eq, gL_eq]); grind
      · skip
        try simp only [gi_eq, Er_eq, E_eq, gL_eq] at c2
        refine W.op rfl (opPick rfl).sem rfl ?_
        refine W.end ?_
        refine W.jx G0up _ (eac rfl (eac rfl (eac rfl ean))) (hac rfl han) (fun _ => rfl) rfl ?_
        · clear h; (try simp only [gi_eq, Er_eq, E_eq, gL_eq]); grind
    · skip
      try simp only [gi_eq, Er_eq, E_eq, gL_eq] at c1
      refine W.op rfl (opUn rfl).sem rfl ?_
      refine W.op rfl (opMove rfl).sem rfl ?_
      refine W.off rfl rfl rfl rfl rfl rfl ?_
      refine W.off rfl rfl rfl rfl rfl rfl ?_
      refine W.off rfl rfl rfl rfl rfl rfl ?_
      refine W.off rfl rfl rfl rfl rfl rfl ?_
      refine W.off rfl rfl rfl rfl rfl rfl ?_
      refine W.op rfl (opPick rfl).sem rfl ?_
      refine W.end ?_
      refine W.jx G0up _ (eac rfl (eac rfl (eac rfl ean))) (hac rfl han) (fun _ => rfl) rfl ?_
      · clear h; (try simp only [gi_eq, Er_eq, E_eq, gL_eq]); grind
  · rintro q22 J22
    try simp only [gi_eq, Er_eq, E_eq, gL_eq] at J22
    change W _ _ _ _ _ _ (envOf [(1, _), (3, _), (22, .v .bool q22)]) (hp (pushH (h)) [(1, _)])
    refine W.condJ rfl J22 (fun c3 => ?_) (fun c3 => ?_)
    · skip
      try simp only [gi_eq, Er_eq, E_eq, gL_eq] at c3
      refine W.seq ?_
      refine W.region ?_
      refine W.op rfl (opAssign rfl).sem rfl ?_
      refine W.end ?_
      refine W.ret (endsR rfl (.cons .v .nil) ?_ (fun _ => rfl))
      refine one_f ?_
      · intro k; have k1 := k.lat; have k2 := k.len; have k3 := k.rng; have k4 := k.inv; have k5 := k.anti; have k6 := k.compl; grind
    · skip
      try simp only [gi_eq, Er_eq, E_eq, gL_eq] at c3
      refine W.skip ?_
      refine W.seq ?_
      refine W.seq ?_
      refine W.region ?_
      refine W.op rfl (opAssign rfl).sem rfl ?_
      refine W.end ?_
      refine W.block ?_
      have lt : IsLat l.1 := (by grind)
      have o := lt.ord
      have hmx := o.max
      have hln : (l.2.1.length : Int) = l.1.length := (by grind)
      refine W.lp G0up [(1, _), (3, _)] [(1, _)] (fun (k : Int) => [(4, .v (.int .i64) k)]) (fun (k : Int) => []) (fun (k : Int) => h) (fun (k : Int) => ((l.1.length : Int) - k).toNat) (fun (k : Int) => (0 ≤ k) ∧ (k ≤ (l.1.length : Int)) ∧ (∀ a : Int, 0 ≤ a → a < k → 0 ≤ gi l.2.1 a ∧ gi l.2.1 a < (l.1.length : Int))) _ ?_ (eac rfl (eac rfl (eac rfl ean))) (hac rfl han) (fun _ => rfl) rfl ?_
      · exact ⟨(by omega), (by omega), (by intro a; omega)⟩
      rintro k ⟨hk0, hk1, hA⟩
      change W _ _ _ _ _ _ (envOf [(1, _), (3, _), (4, .v (.int .i64) k)]) (hp (pushH (h)) [(1, _)])
      refine W.lenB (.own 1) 0 rfl rfl (fun hl_0 => ?_)
      unfold lenMax at hl_0
      try simp only [gi_eq, Er_eq, E_eq, gL_eq] at hl_0
      refine W.seq ?_
      refine W.seq ?_
      refine W.region ?_
      refine W.op rfl (opMove rfl).sem rfl ?_
      refine W.op rfl (opMove rfl).sem rfl ?_
      refine W.opP rfl (opLss hL rfl rfl).sem rfl (fun c4 => ?_) (fun c4 => ?_)
      · skip
        try simp only [gi_eq, Er_eq, E_eq, gL_eq] at c4
        refine W.end ?_
        refine W.condT rfl ?_
        refine W.skip ?_
        refine W.seq ?_
        refine W.block ?_
        refine W.seq ?_
        refine W.region ?_
        refine W.op rfl (opFieldBox hL rfl rfl rfl rfl).sem rfl ?_
        refine W.op rfl (opLoadBp hL rfl rfl rfl rfl).sem rfl ?_
        refine W.op rfl (opMove rfl).sem rfl ?_
        refine W.op rfl (opIdx hL rfl rfl rfl ?_ ?_).sem rfl ?_
        · first | omega | ((try simp only [gi_eq, Er_eq, E_eq, gL_eq]); first | omega | grind)
        · first | omega | ((try simp only [gi_eq, Er_eq, E_eq, gL_eq]); first | omega | exact o.sq.hi (by omega) (by omega) (by omega) | exact o.sq.hi (by grind) (by grind) (by grind) | grind)
        refine W.op rfl (opLoad hL rfl rfl).sem rfl ?_
        refine W.op rfl (opMove rfl).sem rfl ?_
        refine W.op rfl (opSub hL rfl rfl ?_).sem rfl ?_
        · unfold In64; first | omega | ((try simp only [gi_eq, Er_eq, E_eq, gL_eq]); first | omega | grind)
        refine W.opP rfl (opCallR [some (.int .i64), some (.int .i64), some (.int .i64)] rfl (.cons .v (.cons .v (.cons .v .nil))) (c_spec_l1In _ _ _ _)) rfl (fun c5 => ?_) (fun c5 => ?_)
        · skip
          try simp only [gi_eq, Er_eq, E_eq, gL_eq] at c5
          refine W.op rfl (opUn rfl).sem rfl ?_
          refine W.end ?_
          refine W.condF rfl ?_
          refine W.skip ?_
          refine W.blk ?_
          refine W.region ?_
          refine W.op rfl (opMove rfl).sem rfl ?_
          refine W.op rfl (opAdd hL rfl rfl ?_).sem rfl ?_
          · unfold In64; first | omega | ((try simp only [gi_eq, Er_eq, E_eq, gL_eq]); first | omega | grind)
          refine W.op rfl (opAssign rfl).sem rfl ?_
          refine W.end ?_
          refine W.nx G0up _ (eac rfl (eac rfl (eac rfl ean))) (hac rfl han) (fun _ => rfl) rfl ?_ ?_
          · try dsimp only
            omega
          · exact ⟨(by omega), (by omega), (by (try simp only [gi_eq, Er_eq, E_eq, gL_eq]); exact step_lt hA (by grind))⟩
        · skip
          try simp only [gi_eq, Er_eq, E_eq, gL_eq] at c5
          refine W.op rfl (opUn rfl).sem rfl ?_
          refine W.end ?_
          refine W.condT rfl ?_
          refine W.seq ?_
          refine W.region ?_
          refine W.op rfl (opAssign rfl).sem rfl ?_
          refine W.end ?_
          refine W.ret (endsR rfl (.cons .v .nil) ?_ (fun _ => rfl))
          refine one_f ?_
          · intro k; have k1 := k.lat; have k2 := k.len; have k3 := k.rng; have k4 := k.inv; have k5 := k.anti; have k6 := k.compl; grind
      · skip
        try simp only [gi_eq, Er_eq, E_eq, gL_eq] at c4
        refine W.end ?_
        refine W.condF rfl ?_
        refine W.exit rfl ?_
        refine W.seq ?_
        refine W.region ?_
        refine W.op rfl (opFieldBox hL rfl rfl rfl rfl).sem rfl ?_
        refine W.op rfl (opLoadBp hL rfl rfl rfl rfl).sem rfl ?_
        refine W.op rfl (opCallR [some (.sl (.sl (.int .i64)))] rfl (.cons .v .nil) (c_spec_LeastOf _ _)) rfl ?_
        refine W.op rfl (opMove rfl).sem rfl ?_
        refine W.op rfl (opExtract rfl rfl).sem rfl ?_
        refine W.op rfl (opExtract rfl rfl).sem rfl ?_
        refine W.op rfl (opAssign rfl).sem rfl ?_
        refine W.op rfl (opAssign rfl).sem rfl ?_
        refine W.end ?_
        refine W.seq ?_
        refine W.seq ?_
        refine W.region ?_
        refine W.op rfl (opAssign rfl).sem rfl ?_
        refine W.end ?_
        refine W.block ?_
        have hN : ∀ a : Int, 0 ≤ a → a < (l.1.length : Int) → 0 ≤ gi l.2.1 a ∧ gi l.2.1 a < (l.1.length : Int) := fun a h0 h1 => hA a h0 (by omega)
        refine W.lp G0up [(1, _), (3, _), (5, _)] [(1, _)] (fun (k2 : Int) => [(7, .v (.int .i64) k2)]) (fun (k2 : Int) => []) (fun (k2 : Int) => h) (fun (k2 : Int) => ((l.1.length : Int) - k2).toNat) (fun (k2 : Int) => (0 ≤ k2) ∧ (k2 ≤ (l.1.length : Int)) ∧ (∀ a : Int, 0 ≤ a → a < k2 → gi l.2.1 (gi l.2.1 a) = a ∧ meetV l.1 a (gi l.2.1 a) = leastV l.1 ∧ ∀ b : Int, 0 ≤ b → b < (l.1.length : Int) → E l.1 a b = 1 → E l.1 (gi l.2.1 b) (gi l.2.1 a) = 1)) _ ?_ (eac rfl (eac rfl (eac rfl (eac rfl ean)))) (hac rfl han) (fun _ => rfl) rfl ?_
        · exact ⟨(by omega), (by omega), (by intro a; omega)⟩
        rintro k2 ⟨hk20, hk21, hB⟩
        change W _ _ _ _ _ _ (envOf [(1, _), (3, _), (5, _), (7, .v (.int .i64) k2)]) (hp (pushH (h)) [(1, _)])
        refine W.lenB (.own 1) 0 rfl rfl (fun hl_2 => ?_)
        unfold lenMax at hl_2
        try simp only [gi_eq, Er_eq, E_eq, gL_eq] at hl_2
        refine W.seq ?_
        refine W.seq ?_
        refine W.region ?_
        refine W.op rfl (opMove rfl).sem rfl ?_
        refine W.op rfl (opMove rfl).sem rfl ?_
        refine W.opP rfl (opLss hL rfl rfl).sem rfl (fun c6 => ?_) (fun c6 => ?_)
        · skip
          try simp only [gi_eq, Er_eq, E_eq, gL_eq] at c6
          refine W.end ?_
          refine W.condT rfl ?_
          refine W.skip ?_
          refine W.seq ?_
          refine W.block ?_
          refine W.seq ?_
          refine W.seq ?_
          refine W.jr [(1, _), (3, _), (5, _), (7, _)] [(1, _)] (fun (q71 : Bool) => [(71, .v .bool q71)]) (fun (q71 : Bool) => (q71 = true ↔ (((List.getD l.2.1 (Int.toNat ((List.getD l.2.1 (Int.toNat k2) (Ty.dflt (.int .i64))))) (Ty.dflt (.int .i64)))) ≠ k2) ∨ ((meetV l.1 k2 ((List.getD l.2.1 (Int.toNat k2) (Ty.dflt (.int .i64))))) ≠ (leastV l.1)))) (eac rfl (eac rfl (eac rfl (eac rfl ean)))) (hac rfl han) (fun _ => rfl) ?_ ?_
          · skip
            refine W.any [⟨[1], [], none⟩, ⟨[48], [.own 1], none⟩, ⟨[1], [], none⟩, ⟨[50], [.own 1], none⟩, ⟨[7], [], none⟩, ⟨[51, 52], [], none⟩, ⟨[53], [], none⟩, ⟨[49, 54], [], none⟩, ⟨[55], [], none⟩, ⟨[7], [], none⟩, ⟨[56, 57], [], none⟩, ⟨[58], [], none⟩, ⟨[1, 59], [], none⟩, ⟨[60, 59], [.own 1], none⟩, ⟨[7, 59], [], none⟩, ⟨[1, 59], [], none⟩, ⟨[63, 59], [.own 1], none⟩, ⟨[7, 59], [], none⟩, ⟨[64, 65, 59], [], none⟩, ⟨[66, 59], [], none⟩, ⟨[61, 62, 67, 59], [], none⟩, ⟨[5, 59], [], none⟩, ⟨[68, 69, 59], [], none⟩, ⟨[59, 70], [], none⟩] hM (by kernel_rfl) ?_
            refine AW.op rfl (ARead.sem fun e' h' ha => opFieldBox hL rfl rfl rfl rfl) rfl trivial ?_
            refine AW.op rfl (ARead.sem fun e' h' ha => opLoadBp hL rfl rfl ((ha _ rfl).trans rfl) rfl) rfl trivial ?_
            refine AW.op rfl (ARead.sem fun e' h' ha => opFieldBox hL rfl rfl rfl rfl) rfl trivial ?_
            refine AW.op rfl (ARead.sem fun e' h' ha => opLoadBp hL rfl rfl ((ha _ rfl).trans rfl) rfl) rfl trivial ?_
            refine AW.op rfl (ARead.sem fun e' h' ha => opMove rfl) rfl trivial ?_
            refine AW.op rfl (ARead.sem fun e' h' ha => opIdx hL rfl rfl rfl (by clear ha; first | omega | ((try simp only [gi_eq, Er_eq, E_eq, gL_eq]); first | omega | grind)) (by clear ha; first | omega | ((try simp only [gi_eq, Er_eq, E_eq, gL_eq]); first | omega | exact o.sq.hi (by omega) (by omega) (by omega) | exact o.sq.hi (by grind) (by grind) (by grind) | grind))) rfl trivial ?_
            refine AW.op rfl (ARead.sem fun e' h' ha => opLoad hL rfl rfl) rfl trivial ?_
            refine AW.op rfl (ARead.sem fun e' h' ha => opIdx hL rfl rfl rfl (by clear ha; first | omega | ((try simp only [gi_eq, Er_eq, E_eq, gL_eq]); first | omega | grind)) (by clear ha; first | omega | ((try simp only [gi_eq, Er_eq, E_eq, gL_eq]); first | omega | exact o.sq.hi (by omega) (by omega) (by omega) | exact o.sq.hi (by grind) (by grind) (by grind) | grind))) rfl trivial ?_
            refine AW.op rfl (ARead.sem fun e' h' ha => opLoad hL rfl rfl) rfl trivial ?_
            refine AW.op rfl (ARead.sem fun e' h' ha => opMove rfl) rfl trivial ?_
            refine AW.opP rfl (ARead.sem fun e' h' ha => opNeI hL rfl rfl) rfl (fun c7 => ?_) (fun c7 => ?_)
            · skip
              try simp only [gi_eq, Er_eq, E_eq, gL_eq] at c7
              refine AW.op rfl (ARead.sem fun e' h' ha => opMove rfl) rfl trivial ?_
              refine AW.off rfl rfl rfl rfl rfl rfl rfl ?_
              refine AW.off rfl rfl rfl rfl rfl rfl rfl ?_
              refine AW.off rfl rfl rfl rfl rfl rfl rfl ?_
              refine AW.off rfl rfl rfl rfl rfl rfl rfl ?_
              refine AW.off rfl rfl rfl rfl rfl rfl rfl ?_
              refine AW.off rfl rfl rfl rfl rfl rfl rfl ?_
              refine AW.off rfl rfl rfl rfl rfl rfl rfl ?_
              refine AW.off rfl rfl rfl rfl rfl rfl rfl ?_
              refine AW.off rfl rfl rfl rfl rfl rfl rfl ?_
              refine AW.off rfl rfl rfl rfl rfl rfl rfl ?_
              refine AW.off rfl rfl rfl rfl rfl rfl rfl ?_
              refine AW.op rfl (ARead.sem fun e' h' ha => opPick rfl) rfl trivial ?_
              refine AW.end ?_
              refine W.jx G0up _ (eac rfl (eac rfl (eac rfl (eac rfl (eac rfl ean))))) (hac rfl han) (fun _ => rfl) rfl ?_
              · clear h; (try simp only [gi_eq, Er_eq, E_eq, gL_eq]); grind
            · skip
              try simp only [gi_eq, Er_eq, E_eq, gL_eq] at c7
              refine AW.op rfl (ARead.sem fun e' h' ha => opMove rfl) rfl trivial ?_
              refine AW.opG rfl rfl rfl rfl rfl (ARead.sem fun e' h' ha => opFieldBox hL rfl rfl rfl rfl) rfl trivial ?_
              refine AW.opG rfl rfl rfl rfl rfl (ARead.sem fun e' h' ha => opLoadBp hL rfl rfl ((ha _ rfl).trans rfl) rfl) rfl trivial ?_
              refine AW.opG rfl rfl rfl rfl rfl (ARead.sem fun e' h' ha => opMove rfl) rfl trivial ?_
              refine AW.opG rfl rfl rfl rfl rfl (ARead.sem fun e' h' ha => opFieldBox hL rfl rfl rfl rfl) rfl trivial ?_
              refine AW.opG rfl rfl rfl rfl rfl (ARead.sem fun e' h' ha => opLoadBp hL rfl rfl ((ha _ rfl).trans rfl) rfl) rfl trivial ?_
              refine AW.opG rfl rfl rfl rfl rfl (ARead.sem fun e' h' ha => opMove rfl) rfl trivial ?_
              refine AW.opG rfl rfl rfl rfl rfl (ARead.sem fun e' h' ha => opIdx hL rfl rfl rfl (by clear ha; first | omega | ((try simp only [gi_eq, Er_eq, E_eq, gL_eq]); first | omega | grind)) (by clear ha; first | omega | ((try simp only [gi_eq, Er_eq, E_eq, gL_eq]); first | omega | exact o.sq.hi (by omega) (by omega) (by omega) | exact o.sq.hi (by grind) (by grind) (by grind) | grind))) rfl trivial ?_
              refine AW.opG rfl rfl rfl rfl rfl (ARead.sem fun e' h' ha => opLoad hL rfl rfl) rfl trivial ?_
              refine AW.opG (eff := none) rfl rfl rfl rfl rfl (fun e' h' ha => opCallR [some (.sl (.sl (.int .i64))), some (.int .i64), some (.int .i64)] rfl (.cons .v (.cons .v (.cons .v .nil))) (c_spec_l1Meet _ _ _ (by clear ha; exact o) (by clear ha; omega) (by clear ha; (try simp only [gi_eq, Er_eq, E_eq, gL_eq]); grind) _)) rfl trivial ?_
              refine AW.opG rfl rfl rfl rfl rfl (ARead.sem fun e' h' ha => opMove rfl) rfl trivial ?_
              refine AW.opGP rfl rfl rfl rfl rfl (ARead.sem fun e' h' ha => opNeI hL rfl rfl) rfl (fun c8 => ?_) (fun c8 => ?_)
              · skip
                try simp only [gi_eq, Er_eq, E_eq, gL_eq] at c8
                refine AW.op rfl (ARead.sem fun e' h' ha => opPick rfl) rfl trivial ?_
                refine AW.end ?_
                refine W.jx G0up _ (eac rfl (eac rfl (eac rfl (eac rfl (eac rfl ean))))) (hac rfl han) (fun _ => rfl) rfl ?_
                · clear h; (try simp only [gi_eq, Er_eq, E_eq, gL_eq]); grind
              · skip
                try simp only [gi_eq, Er_eq, E_eq, gL_eq] at c8
                refine AW.op rfl (ARead.sem fun e' h' ha => opPick rfl) rfl trivial ?_
                refine AW.end ?_
                refine W.jx G0up _ (eac rfl (eac rfl (eac rfl (eac rfl (eac rfl ean))))) (hac rfl han) (fun _ => rfl) rfl ?_
                · clear h; (try simp only [gi_eq, Er_eq, E_eq, gL_eq]); grind
          · rintro q71 J71
            try simp only [gi_eq, Er_eq, E_eq, gL_eq] at J71
            change W _ _ _ _ _ _ (envOf [(1, _), (3, _), (5, _), (7, _), (71, .v .bool q71)]) (hp (pushH (h)) [(1, _)])
            refine W.condJ rfl J71 (fun c9 => ?_) (fun c9 => ?_)
            · skip
              try simp only [gi_eq, Er_eq, E_eq, gL_eq] at c9
              refine W.seq ?_
              refine W.region ?_
              refine W.op rfl (opAssign rfl).sem rfl ?_
              refine W.end ?_
              refine W.ret (endsR rfl (.cons .v .nil) ?_ (fun _ => rfl))
              refine one_f ?_
              · intro k; have k1 := k.lat; have k2 := k.len; have k3 := k.rng; have k4 := k.inv; have k5 := k.anti; have k6 := k.compl; grind
            · skip
              try simp only [gi_eq, Er_eq, E_eq, gL_eq] at c9
              refine W.skip ?_
              refine W.seq ?_
              refine W.region ?_
              refine W.op rfl (opAssign rfl).sem rfl ?_
              refine W.end ?_
              refine W.block ?_
              refine W.lp G0up [(1, _), (3, _), (5, _), (7, _)] [(1, _)] (fun (j : Int) => [(8, .v (.int .i64) j)]) (fun (j : Int) => []) (fun (j : Int) => h) (fun (j : Int) => ((l.1.length : Int) - j).toNat) (fun (j : Int) => (0 ≤ j) ∧ (j ≤ (l.1.length : Int)) ∧ (∀ b : Int, 0 ≤ b → b < j → E l.1 k2 b = 1 → E l.1 (gi l.2.1 b) (gi l.2.1 k2) = 1)) _ ?_ (eac rfl (eac rfl (eac rfl (eac rfl (eac rfl ean))))) (hac rfl han) (fun _ => rfl) rfl ?_
              · exact ⟨(by omega), (by omega), (by intro b; omega)⟩
              rintro j ⟨hj0, hj1, hC⟩
              change W _ _ _ _ _ _ (envOf [(1, _), (3, _), (5, _), (7, _), (8, .v (.int .i64) j)]) (hp (pushH (h)) [(1, _)])
              refine W.lenB (.own 1) 0 rfl rfl (fun hl_4 => ?_)
              unfold lenMax at hl_4
              try simp only [gi_eq, Er_eq, E_eq, gL_eq] at hl_4
              refine W.seq ?_
              refine W.seq ?_
              refine W.region ?_
              refine W.op rfl (opMove rfl).sem rfl ?_
              refine W.op rfl (opMove rfl).sem rfl ?_
              refine W.opP rfl (opLss hL rfl rfl).sem rfl (fun c10 => ?_) (fun c10 => ?_)
              · skip
                try simp only [gi_eq, Er_eq, E_eq, gL_eq] at c10
                refine W.end ?_
                refine W.condT rfl ?_
                refine W.skip ?_
                refine W.seq ?_
                refine W.block ?_
                refine W.seq ?_
                refine W.jr [(1, _), (3, _), (5, _), (7, _), (8, _)] [(1, _)] (fun (q104 : Bool) => [(104, .v .bool q104)]) (fun (q104 : Bool) => (q104 = true ↔ (((List.getD ((List.getD l.1 (Int.toNat k2) (Ty.dflt (.sl (.int .i64))))) (Int.toNat j) (Ty.dflt (.int .i64)))) = 1) ∧ (((List.getD ((List.getD l.1 (Int.toNat ((List.getD l.2.1 (Int.toNat j) (Ty.dflt (.int .i64))))) (Ty.dflt (.sl (.int .i64))))) (Int.toNat ((List.getD l.2.1 (Int.toNat k2) (Ty.dflt (.int .i64))))) (Ty.dflt (.int .i64)))) = 0))) (eac rfl (eac rfl (eac rfl (eac rfl (eac rfl ean))))) (hac rfl han) (fun _ => rfl) ?_ ?_
                · skip
                  refine W.any [⟨[1], [], none⟩, ⟨[77], [.own 1], none⟩, ⟨[7], [], none⟩, ⟨[78, 79], [], none⟩, ⟨[80], [], none⟩, ⟨[8], [], none⟩, ⟨[81, 82], [], none⟩, ⟨[83], [], none⟩, ⟨[84], [], none⟩, ⟨[85], [], none⟩, ⟨[1, 86], [], none⟩, ⟨[87, 86], [.own 1], none⟩, ⟨[1, 86], [], none⟩, ⟨[89, 86], [.own 1], none⟩, ⟨[8, 86], [], none⟩, ⟨[90, 91, 86], [], none⟩, ⟨[92, 86], [], none⟩, ⟨[88, 93, 86], [], none⟩, ⟨[94, 86], [], none⟩, ⟨[1, 86], [], none⟩, ⟨[96, 86], [.own 1], none⟩, ⟨[7, 86], [], none⟩, ⟨[97, 98, 86], [], none⟩, ⟨[99, 86], [], none⟩, ⟨[95, 100, 86], [], none⟩, ⟨[101, 86], [], none⟩, ⟨[102, 86], [], none⟩, ⟨[86, 103], [], none⟩] hM (by kernel_rfl) ?_
                  refine AW.op rfl (ARead.sem fun e' h' ha => opFieldBox hL rfl rfl rfl rfl) rfl trivial ?_
                  refine AW.op rfl (ARead.sem fun e' h' ha => opLoadBp hL rfl rfl ((ha _ rfl).trans rfl) rfl) rfl trivial ?_
                  refine AW.op rfl (ARead.sem fun e' h' ha => opMove rfl) rfl trivial ?_
                  refine AW.op rfl (ARead.sem fun e' h' ha => opIdx hL rfl rfl rfl (by clear ha; first | omega | ((try simp only [gi_eq, Er_eq, E_eq, gL_eq]); first | omega | grind)) (by clear ha; first | omega | ((try simp only [gi_eq, Er_eq, E_eq, gL_eq]); first | omega | exact o.sq.hi (by omega) (by omega) (by omega) | exact o.sq.hi (by grind) (by grind) (by grind) | grind))) rfl trivial ?_
                  refine AW.op rfl (ARead.sem fun e' h' ha => opLoad hL rfl rfl) rfl trivial ?_
                  refine AW.op rfl (ARead.sem fun e' h' ha => opMove rfl) rfl trivial ?_
                  refine AW.op rfl (ARead.sem fun e' h' ha => opIdx hL rfl rfl rfl (by clear ha; first | omega | ((try simp only [gi_eq, Er_eq, E_eq, gL_eq]); first | omega | grind)) (by clear ha; first | omega | ((try simp only [gi_eq, Er_eq, E_eq, gL_eq]); first | omega | exact o.sq.hi (by omega) (by omega) (by omega) | exact o.sq.hi (by grind) (by grind) (by grind) | grind))) rfl trivial ?_
                  refine AW.op rfl (ARead.sem fun e' h' ha => opLoad hL rfl rfl) rfl trivial ?_
                  refine AW.opP rfl (ARead.sem fun e' h' ha => opEqI hL rfl rfl) rfl (fun c11 => ?_) (fun c11 => ?_)
                  · skip
                    try simp only [gi_eq, Er_eq, E_eq, gL_eq] at c11
                    refine AW.op rfl (ARead.sem fun e' h' ha => opMove rfl) rfl trivial ?_
                    refine AW.opG rfl rfl rfl rfl rfl (ARead.sem fun e' h' ha => opFieldBox hL rfl rfl rfl rfl) rfl trivial ?_
                    refine AW.opG rfl rfl rfl rfl rfl (ARead.sem fun e' h' ha => opLoadBp hL rfl rfl ((ha _ rfl).trans rfl) rfl) rfl trivial ?_
                    refine AW.opG rfl rfl rfl rfl rfl (ARead.sem fun e' h' ha => opFieldBox hL rfl rfl rfl rfl) rfl trivial ?_
                    refine AW.opG rfl rfl rfl rfl rfl (ARead.sem fun e' h' ha => opLoadBp hL rfl rfl ((ha _ rfl).trans rfl) rfl) rfl trivial ?_
                    refine AW.opG rfl rfl rfl rfl rfl (ARead.sem fun e' h' ha => opMove rfl) rfl trivial ?_
                    refine AW.opG rfl rfl rfl rfl rfl (ARead.sem fun e' h' ha => opIdx hL rfl rfl rfl (by clear ha; first | omega | ((try simp only [gi_eq, Er_eq, E_eq, gL_eq]); first | omega | grind)) (by clear ha; first | omega | ((try simp only [gi_eq, Er_eq, E_eq, gL_eq]); first | omega | exact o.sq.hi (by omega) (by omega) (by omega) | exact o.sq.hi (by grind) (by grind) (by grind) | grind))) rfl trivial ?_
                    refine AW.opG rfl rfl rfl rfl rfl (ARead.sem fun e' h' ha => opLoad hL rfl rfl) rfl trivial ?_
                    refine AW.opG rfl rfl rfl rfl rfl (ARead.sem fun e' h' ha => opIdx hL rfl rfl rfl (by clear ha; first | omega | ((try simp only [gi_eq, Er_eq, E_eq, gL_eq]); first | omega | grind)) (by clear ha; first | omega | ((try simp only [gi_eq, Er_eq, E_eq, gL_eq]); first | omega | exact o.sq.hi (by omega) (by omega) (by omega) | exact o.sq.hi (by grind) (by grind) (by grind) | grind))) rfl trivial ?_
                    refine AW.opG rfl rfl rfl rfl rfl (ARead.sem fun e' h' ha => opLoad hL rfl rfl) rfl trivial ?_
                    refine AW.opG rfl rfl rfl rfl rfl (ARead.sem fun e' h' ha => opFieldBox hL rfl rfl rfl rfl) rfl trivial ?_
                    refine AW.opG rfl rfl rfl rfl rfl (ARead.sem fun e' h' ha => opLoadBp hL rfl rfl ((ha _ rfl).trans rfl) rfl) rfl trivial ?_
                    refine AW.opG rfl rfl rfl rfl rfl (ARead.sem fun e' h' ha => opMove rfl) rfl trivial ?_
                    refine AW.opG rfl rfl rfl rfl rfl (ARead.sem fun e' h' ha => opIdx hL rfl rfl rfl (by clear ha; first | omega | ((try simp only [gi_eq, Er_eq, E_eq, gL_eq]); first | omega | grind)) (by clear ha; first | omega | ((try simp only [gi_eq, Er_eq, E_eq, gL_eq]); first | omega | exact o.sq.hi (by omega) (by omega) (by omega) | exact o.sq.hi (by grind) (by grind) (by grind) | grind))) rfl trivial ?_
                    refine AW.opG rfl rfl rfl rfl rfl (ARead.sem fun e' h' ha => opLoad hL rfl rfl) rfl trivial ?_
                    refine AW.opG rfl rfl rfl rfl rfl (ARead.sem fun e' h' ha => opIdx hL rfl rfl rfl (by clear ha; first | omega | ((try simp only [gi_eq, Er_eq, E_eq, gL_eq]); first | omega | grind)) (by clear ha; first | omega | ((try simp only [gi_eq, Er_eq, E_eq, gL_eq]); first | omega | exact o.sq.hi (by omega) (by omega) (by omega) | exact o.sq.hi (by grind) (by grind) (by grind) | grind))) rfl trivial ?_
                    refine AW.opG rfl rfl rfl rfl rfl (ARead.sem fun e' h' ha => opLoad hL rfl rfl) rfl trivial ?_
                    refine AW.opGP rfl rfl rfl rfl rfl (ARead.sem fun e' h' ha => opEqI hL rfl rfl) rfl (fun c12 => ?_) (fun c12 => ?_)
                    · skip
                      try simp only [gi_eq, Er_eq, E_eq, gL_eq] at c12
                      refine AW.op rfl (ARead.sem fun e' h' ha => opPick rfl) rfl trivial ?_
                      refine AW.end ?_
                      refine W.jx G0up _ (eac rfl (eac rfl (eac rfl (eac rfl (eac rfl (eac rfl ean)))))) (hac rfl han) (fun _ => rfl) rfl ?_
                      · clear h; (try simp only [gi_eq, Er_eq, E_eq, gL_eq]); grind
                    · skip
                      try simp only [gi_eq, Er_eq, E_eq, gL_eq] at c12
                      refine AW.op rfl (ARead.sem fun e' h' ha => opPick rfl) rfl trivial ?_
                      refine AW.end ?_
                      refine W.jx G0up _ (eac rfl (eac rfl (eac rfl (eac rfl (eac rfl (eac rfl ean)))))) (hac rfl han) (fun _ => rfl) rfl ?_
                      · clear h; (try simp only [gi_eq, Er_eq, E_eq, gL_eq]); grind
                  · skip
                    try simp only [gi_eq, Er_eq, E_eq, gL_eq] at c11
                    refine AW.op rfl (ARead.sem fun e' h' ha => opMove rfl) rfl trivial ?_
                    refine AW.off rfl rfl rfl rfl rfl rfl rfl ?_
                    refine AW.off rfl rfl rfl rfl rfl rfl rfl ?_
                    refine AW.off rfl rfl rfl rfl rfl rfl rfl ?_
                    refine AW.off rfl rfl rfl rfl rfl rfl rfl ?_
                    refine AW.off rfl rfl rfl rfl rfl rfl rfl ?_
                    refine AW.off rfl rfl rfl rfl rfl rfl rfl ?_
                    refine AW.off rfl rfl rfl rfl rfl rfl rfl ?_
                    refine AW.off rfl rfl rfl rfl rfl rfl rfl ?_
                    refine AW.off rfl rfl rfl rfl rfl rfl rfl ?_
                    refine AW.off rfl rfl rfl rfl rfl rfl rfl ?_
                    refine AW.off rfl rfl rfl rfl rfl rfl rfl ?_
                    refine AW.off rfl rfl rfl rfl rfl rfl rfl ?_
                    refine AW.off rfl rfl rfl rfl rfl rfl rfl ?_
                    refine AW.off rfl rfl rfl rfl rfl rfl rfl ?_
                    refine AW.off rfl rfl rfl rfl rfl rfl rfl ?_
                    refine AW.off rfl rfl rfl rfl rfl rfl rfl ?_
                    refine AW.off rfl rfl rfl rfl rfl rfl rfl ?_
                    refine AW.op rfl (ARead.sem fun e' h' ha => opPick rfl) rfl trivial ?_
                    refine AW.end ?_
                    refine W.jx G0up _ (eac rfl (eac rfl (eac rfl (eac rfl (eac rfl (eac rfl ean)))))) (hac rfl han) (fun _ => rfl) rfl ?_
                    · clear h; (try simp only [gi_eq, Er_eq, E_eq, gL_eq]); grind
                · rintro q104 J104
                  try simp only [gi_eq, Er_eq, E_eq, gL_eq] at J104
                  change W _ _ _ _ _ _ (envOf [(1, _), (3, _), (5, _), (7, _), (8, _), (104, .v .bool q104)]) (hp (pushH (h)) [(1, _)])
                  refine W.condJ rfl J104 (fun c13 => ?_) (fun c13 => ?_)
                  · skip
                    try simp only [gi_eq, Er_eq, E_eq, gL_eq] at c13
                    refine W.seq ?_
                    refine W.region ?_
                    refine W.op rfl (opAssign rfl).sem rfl ?_
                    refine W.end ?_
                    refine W.ret (endsR rfl (.cons .v .nil) ?_ (fun _ => rfl))
                    refine one_f ?_
                    · intro k; have k1 := k.lat; have k2 := k.len; have k3 := k.rng; have k4 := k.inv; have k5 := k.anti; have k6 := k.compl; grind
                  · skip
                    try simp only [gi_eq, Er_eq, E_eq, gL_eq] at c13
                    refine W.skip ?_
                    refine W.blk ?_
                    refine W.region ?_
                    refine W.op rfl (opMove rfl).sem rfl ?_
                    refine W.op rfl (opAdd hL rfl rfl ?_).sem rfl ?_
                    · unfold In64; first | omega | ((try simp only [gi_eq, Er_eq, E_eq, gL_eq]); first | omega | grind)
                    refine W.op rfl (opAssign rfl).sem rfl ?_
                    refine W.end ?_
                    refine W.nx G0up _ (eac rfl (eac rfl (eac rfl (eac rfl (eac rfl ean))))) (hac rfl han) (fun _ => rfl) rfl ?_ ?_
                    · try dsimp only
                      omega
                    · exact ⟨(by omega), (by omega), (by (try simp only [gi_eq, Er_eq, E_eq, gL_eq]); exact step_lt hC (by have hb := o.bit; grind))⟩
              · skip
                try simp only [gi_eq, Er_eq, E_eq, gL_eq] at c10
                refine W.end ?_
                refine W.condF rfl ?_
                refine W.exit rfl ?_
                refine W.blk ?_
                refine W.region ?_
                refine W.op rfl (opMove rfl).sem rfl ?_
                refine W.op rfl (opAdd hL rfl rfl ?_).sem rfl ?_
                · unfold In64; first | omega | ((try simp only [gi_eq, Er_eq, E_eq, gL_eq]); first | omega | grind)
                refine W.op rfl (opAssign rfl).sem rfl ?_
                refine W.end ?_
                refine W.nx G0up _ (eac rfl (eac rfl (eac rfl (eac rfl ean)))) (hac rfl han) (fun _ => rfl) rfl ?_ ?_
                · try dsimp only
                  omega
                · exact ⟨(by omega), (by omega), (by (try simp only [gi_eq, Er_eq, E_eq, gL_eq]); exact step_lt hB (by exact ⟨by grind, by grind, fun b h0 h1 => hC b h0 (by omega)⟩))⟩
        · skip
          try simp only [gi_eq, Er_eq, E_eq, gL_eq] at c6
          refine W.end ?_
          refine W.condF rfl ?_
          refine W.exit rfl ?_
          refine W.seq ?_
          refine W.region ?_
          refine W.op rfl (opAssign rfl).sem rfl ?_
          refine W.end ?_
          refine W.ret (endsR rfl (.cons .v .nil) ?_ (fun _ => rfl))
          refine one_t ?_
          · exact ⟨lt, hln, hN, fun a h0 h1 => (hB a h0 (by omega)).1, fun a b h0 h1 h2 h3 => (hB a h0 (by omega)).2.2 b h2 h3, fun a h0 h1 => (hB a h0 (by omega)).2.1⟩
theorem c_impl_DeskOk_1 (l : ((List (List Int)) × (List Int) × Unit))  (h : Heap) : FnRes Try.prog G0 63 [.v (.cons (.sl (.sl (.int .i64))) (.cons (.sl (.int .i64)) .nil)) l] h (.v .bool (decide (¬ IsLog l))) h := by
  refine FnRes.intro (N := 6) (rs := [.tmp 2]) [some .bool] hL G0up Try.func63 rfl rfl rfl rfl rfl ?_
  refine W.seq ?_
  refine W.region ?_
  refine W.op rfl (opBoxV rfl rfl rfl) rfl ?_
  refine W.op rfl (opAssign rfl).sem rfl ?_
  refine W.end ?_
  refine W.seq ?_
  refine W.region ?_
  refine W.op rfl (opLoadBp hL rfl rfl rfl rfl).sem rfl ?_
  refine W.opP rfl (opCallR [some (.cons (.sl (.sl (.int .i64))) (.cons (.sl (.int .i64)) .nil))] rfl (.cons (.agg rfl (.cons (.one .sl) (.cons (.one .sl) .nil))) .nil) (c_impl_LogicOk _ _)) rfl (fun c1 => ?_) (fun c1 => ?_)
  · skip
    refine W.op rfl (opUn rfl).sem rfl ?_
    refine W.op rfl (opAssign rfl).sem rfl ?_
    refine W.end ?_
    refine W.ret (endsR rfl (.cons .v .nil) ?_ (fun _ => rfl))
    refine one_f ?_
    · exact fun k => k (by assumption)
  · skip
    refine W.op rfl (opUn rfl).sem rfl ?_
    refine W.op rfl (opAssign rfl).sem rfl ?_
    refine W.end ?_
    refine W.ret (endsR rfl (.cons .v .nil) ?_ (fun _ => rfl))
    refine one_t ?_
    · assumption
theorem c_slices_IndexFunc_impl_Logic_impl_Logic (s : (List ((List (List Int)) × (List Int) × Unit)))  (h : Heap) : FnRes Try.prog G0 120 [.v (.sl (.cons (.sl (.sl (.int .i64))) (.cons (.sl (.int .i64)) .nil))) s, .clo 63 []] h (.v (.int .i64) (fidx (fun i => ¬ IsLog (gL s i)) (s.length : Int))) h := by
  refine FnRes.intro (N := 19) (rs := [.tmp 4]) [some (.int .i64)] hL G0up Try.func120 rfl rfl rfl rfl rfl ?_
  refine W.lenV 0 rfl (fun hl0 => ?_)
  unfold lenMax at hl0
  refine W.seq ?_
  refine W.region ?_
  refine W.op rfl (opAssign rfl).sem rfl ?_
  refine W.end ?_
  refine W.seq ?_
  refine W.seq ?_
  refine W.region ?_
  refine W.op rfl (opMove rfl).sem rfl ?_
  refine W.op rfl (opLen hL rfl rfl).sem rfl ?_
  refine W.op rfl (opMove rfl).sem rfl ?_
  refine W.end ?_
  refine W.block ?_
  refine W.lp G0up [(0, _), (1, _), (7, _)] [] (fun (x8 : Int) => [(8, .v (.int .i64) x8)]) (fun (x8 : Int) => []) (fun (x8 : Int) => h) (fun (x8 : Int) => ((s.length : Int) - x8).toNat) (fun (x8 : Int) => (0 ≤ x8) ∧ (x8 ≤ (s.length : Int)) ∧ (∀ j : Int, 0 ≤ j → j < x8 → ¬ ¬ IsLog (gL s j))) _ ?_ (eac rfl (eac rfl (eac rfl (eac rfl ean)))) han (fun _ => rfl) rfl ?_
  · exact ⟨(by omega), (by omega), (by intro j; omega)⟩
  rintro x8 ⟨hx80, hx81, hA⟩
  change W _ _ _ _ _ _ (envOf [(0, _), (1, _), (7, _), (8, .v (.int .i64) x8)]) (hp (pushH (h)) [])
  refine W.lenV 0 rfl (fun hl_0 => ?_)
  unfold lenMax at hl_0
  try simp only [gi_eq, Er_eq, E_eq, gL_eq] at hl_0
  refine W.seq ?_
  refine W.region ?_
  refine W.opP rfl (opLss hL rfl rfl).sem rfl (fun c1 => ?_) (fun c1 => ?_)
  · skip
    try simp only [gi_eq, Er_eq, E_eq, gL_eq] at c1
    refine W.end ?_
    refine W.seq ?_
    refine W.condT rfl ?_
    refine W.skip ?_
    refine W.seq ?_
    refine W.block ?_
    refine W.seq ?_
    refine W.region ?_
    refine W.op rfl (opMove rfl).sem rfl ?_
    refine W.op rfl (opAssign rfl).sem rfl ?_
    refine W.end ?_
    refine W.seq ?_
    refine W.region ?_
    refine W.op rfl (opMove rfl).sem rfl ?_
    refine W.op rfl (opMove rfl).sem rfl ?_
    refine W.op rfl (opMove rfl).sem rfl ?_
    refine W.op rfl (opIdx hL rfl rfl rfl ?_ ?_).sem rfl ?_
    · first | omega | ((try simp only [gi_eq, Er_eq, E_eq, gL_eq]); first | omega | grind)
    · first | omega | ((try simp only [gi_eq, Er_eq, E_eq, gL_eq]); first | omega | grind)
    refine W.op rfl (opLoad hL rfl rfl).sem rfl ?_
    refine W.opP rfl (opCallR [some (.cons (.sl (.sl (.int .i64))) (.cons (.sl (.int .i64)) .nil))] rfl (.cons .v .nil) (c_impl_DeskOk_1 _ _)) rfl (fun c2 => ?_) (fun c2 => ?_)
    · skip
      try simp only [gi_eq, Er_eq, E_eq, gL_eq] at c2
      refine W.end ?_
      refine W.condT rfl ?_
      refine W.seq ?_
      refine W.region ?_
      refine W.op rfl (opMove rfl).sem rfl ?_
      refine W.op rfl (opAssign rfl).sem rfl ?_
      refine W.end ?_
      refine W.ret (endsR rfl (.cons .v .nil) ?_ (fun _ => rfl))
      refine one_v ?_
      · first | exact fidx_none (fun j h0 h1 => hA j h0 (by omega)) | exact fidx_of (by omega) (by omega) (by assumption) hA
    · skip
      try simp only [gi_eq, Er_eq, E_eq, gL_eq] at c2
      refine W.end ?_
      refine W.condF rfl ?_
      refine W.skip ?_
      refine W.blk ?_
      refine W.region ?_
      refine W.op rfl (opAdd hL rfl rfl ?_).sem rfl ?_
      · unfold In64; first | omega | ((try simp only [gi_eq, Er_eq, E_eq, gL_eq]); first | omega | grind)
      refine W.op rfl (opMove rfl).sem rfl ?_
      refine W.end ?_
      refine W.nx G0up _ (eac rfl (eac rfl (eac rfl (eac rfl ean)))) han (fun _ => rfl) rfl ?_ ?_
      · try dsimp only
        omega
      · exact ⟨(by omega), (by omega), (by (try simp only [gi_eq, Er_eq, E_eq, gL_eq]); exact step_lt hA (by assumption))⟩
  · skip
    try simp only [gi_eq, Er_eq, E_eq, gL_eq] at c1
    refine W.end ?_
    refine W.seq ?_
    refine W.condF rfl ?_
    refine W.exit rfl ?_
    refine W.seq ?_
    refine W.region ?_
    refine W.op rfl (opAssign rfl).sem rfl ?_
    refine W.end ?_
    refine W.ret (endsR rfl (.cons .v .nil) ?_ (fun _ => rfl))
    refine one_v ?_
    · first | exact fidx_none (fun j h0 h1 => hA j h0 (by omega)) | exact fidx_of (by omega) (by omega) (by assumption) hA
theorem c_slices_ContainsFunc_impl_Logic_impl_Logic (s : (List ((List (List Int)) × (List Int) × Unit)))  (h : Heap) : FnRes Try.prog G0 62 [.v (.sl (.cons (.sl (.sl (.int .i64))) (.cons (.sl (.int .i64)) .nil))) s, .clo 63 []] h (.v .bool (decide (∃ i : Int, 0 ≤ i ∧ i < (s.length : Int) ∧ ¬ IsLog (gL s i)))) h := by
  refine FnRes.intro (N := 9) (rs := [.tmp 4]) [some .bool] hL G0up Try.func62 rfl rfl rfl rfl rfl ?_
  refine W.seq ?_
  refine W.region ?_
  refine W.op rfl (opAssign rfl).sem rfl ?_
  refine W.end ?_
  refine W.seq ?_
  refine W.region ?_
  refine W.op rfl (opMove rfl).sem rfl ?_
  refine W.op rfl (opMove rfl).sem rfl ?_
  refine W.op rfl (opCallR [some (.sl (.cons (.sl (.sl (.int .i64))) (.cons (.sl (.int .i64)) .nil))), none] rfl (.cons .v (.skip .nil)) (c_slices_IndexFunc_impl_Logic_impl_Logic _ _)) rfl ?_
  refine W.opP rfl (opGeq hL rfl rfl).sem rfl (fun c1 => ?_) (fun c1 => ?_)
  · skip
    refine W.op rfl (opAssign rfl).sem rfl ?_
    refine W.end ?_
    refine W.ret (endsR rfl (.cons .v .nil) ?_ (fun _ => rfl))
    refine one_t ?_
    · exact fidx_nn.1 (by assumption)
  · skip
    refine W.op rfl (opAssign rfl).sem rfl ?_
    refine W.end ?_
    refine W.ret (endsR rfl (.cons .v .nil) ?_ (fun _ => rfl))
    refine one_f ?_
    · exact fun k => (by assumption : ¬ _) (fidx_nn.2 k)
theorem c_impl_DeskOk (d : (((List (List Int)) × (List Int) × Unit) × (List ((List (List Int)) × (List Int) × Unit)) × Unit))  (h : Heap) : FnRes Try.prog G0 21 [.v (.cons (.cons (.sl (.sl (.int .i64))) (.cons (.sl (.int .i64)) .nil)) (.cons (.sl (.cons (.sl (.sl (.int .i64))) (.cons (.sl (.int .i64)) .nil))) .nil)) d] h (.v .bool (decide (IsDesk d))) h := by
  refine FnRes.intro (N := 18) (rs := [.tmp 2]) [some .bool] hL G0up Try.func21 rfl rfl rfl rfl rfl ?_
  refine W.seq ?_
  refine W.region ?_
  refine W.op rfl (opBoxV rfl rfl rfl) rfl ?_
  refine W.op rfl (opAssign rfl).sem rfl ?_
  refine W.end ?_
  refine W.seq ?_
  refine W.jr [] [] (fun (q2 : Bool) => [(2, .v .bool q2)]) (fun (q2 : Bool) => (q2 = true ↔ (((IsLog d.1)) ∧ (((d.2.1.length : Int)) ≤ 8)) ∧ (¬ ((∃ i : Int, 0 ≤ i ∧ i < (d.2.1.length : Int) ∧ ¬ IsLog (gL d.2.1 i)))))) ean han (fun _ => rfl) ?_ ?_
  · skip
    refine W.region ?_
    refine W.op rfl (opFieldBox hL rfl rfl rfl rfl).sem rfl ?_
    refine W.op rfl (opLoadBp hL rfl rfl rfl rfl).sem rfl ?_
    refine W.opP rfl (opCallR [some (.cons (.sl (.sl (.int .i64))) (.cons (.sl (.int .i64)) .nil))] rfl (.cons (.agg rfl (.cons (.one .sl) (.cons (.one .sl) .nil))) .nil) (c_impl_LogicOk _ _)) rfl (fun c1 => ?_) (fun c1 => ?_)
    · skip
      try simp only [gi_eq, Er_eq, E_eq, gL_eq] at c1
      refine W.op rfl (opMove rfl).sem rfl ?_
      refine W.opG rfl rfl rfl rfl (opFieldBox hL rfl rfl rfl rfl).sem rfl ?_
      refine W.opG rfl rfl rfl rfl (opLoadBp hL rfl rfl rfl rfl).sem rfl ?_
      refine W.opG rfl rfl rfl rfl (opLen hL rfl rfl).sem rfl ?_
      refine W.opGP rfl rfl rfl rfl (opLeq hL rfl rfl).sem rfl (fun c2 => ?_) (fun c2 => ?_)
      · skip
        try simp only [gi_eq, Er_eq, E_eq, gL_eq] at c2
        refine W.op rfl (opPick rfl).sem rfl ?_
        refine W.op rfl (opMove rfl).sem rfl ?_
        refine W.opG rfl rfl rfl rfl (opFieldBox hL rfl rfl rfl rfl).sem rfl ?_
        refine W.opG rfl rfl rfl rfl (opLoadBp hL rfl rfl rfl rfl).sem rfl ?_
        refine W.opGP rfl rfl rfl rfl (opCallR [some (.sl (.cons (.sl (.sl (.int .i64))) (.cons (.sl (.int .i64)) .nil))), none] rfl (.cons .v (.skip .nil)) (c_slices_ContainsFunc_impl_Logic_impl_Logic _ _)) rfl (fun c3 => ?_) (fun c3 => ?_)
        · skip
          try simp only [gi_eq, Er_eq, E_eq, gL_eq] at c3
          refine W.opG rfl rfl rfl rfl (opUn rfl).sem rfl ?_
          refine W.op rfl (opPick rfl).sem rfl ?_
          refine W.op rfl (opAssign rfl).sem rfl ?_
          refine W.end ?_
          refine W.jx G0up _ (eac rfl ean) han (fun _ => rfl) rfl ?_
          · clear h; (try simp only [gi_eq, Er_eq, E_eq, gL_eq]); grind
        · skip
          try simp only [gi_eq, Er_eq, E_eq, gL_eq] at c3
          refine W.opG rfl rfl rfl rfl (opUn rfl).sem rfl ?_
          refine W.op rfl (opPick rfl).sem rfl ?_
          refine W.op rfl (opAssign rfl).sem rfl ?_
          refine W.end ?_
          refine W.jx G0up _ (eac rfl ean) han (fun _ => rfl) rfl ?_
          · clear h; (try simp only [gi_eq, Er_eq, E_eq, gL_eq]); grind
      · skip
        try simp only [gi_eq, Er_eq, E_eq, gL_eq] at c2
        refine W.op rfl (opPick rfl).sem rfl ?_
        refine W.op rfl (opMove rfl).sem rfl ?_
        refine W.off rfl rfl rfl rfl rfl rfl ?_
        refine W.off rfl rfl rfl rfl rfl rfl ?_
        refine W.off rfl rfl rfl rfl rfl rfl ?_
        refine W.off rfl rfl rfl rfl rfl rfl ?_
        refine W.op rfl (opPick rfl).sem rfl ?_
        refine W.op rfl (opAssign rfl).sem rfl ?_
        refine W.end ?_
        refine W.jx G0up _ (eac rfl ean) han (fun _ => rfl) rfl ?_
        · clear h; (try simp only [gi_eq, Er_eq, E_eq, gL_eq]); grind
    · skip
      try simp only [gi_eq, Er_eq, E_eq, gL_eq] at c1
      refine W.op rfl (opMove rfl).sem rfl ?_
      refine W.off rfl rfl rfl rfl rfl rfl ?_
      refine W.off rfl rfl rfl rfl rfl rfl ?_
      refine W.off rfl rfl rfl rfl rfl rfl ?_
      refine W.off rfl rfl rfl rfl rfl rfl ?_
      refine W.op rfl (opPick rfl).sem rfl ?_
      refine W.op rfl (opMove rfl).sem rfl ?_
      refine W.off rfl rfl rfl rfl rfl rfl ?_
      refine W.off rfl rfl rfl rfl rfl rfl ?_
      refine W.off rfl rfl rfl rfl rfl rfl ?_
      refine W.off rfl rfl rfl rfl rfl rfl ?_
      refine W.op rfl (opPick rfl).sem rfl ?_
      refine W.op rfl (opAssign rfl).sem rfl ?_
      refine W.end ?_
      refine W.jx G0up _ (eac rfl ean) han (fun _ => rfl) rfl ?_
      · clear h; (try simp only [gi_eq, Er_eq, E_eq, gL_eq]); grind
  · rintro q2 J2
    try simp only [gi_eq, Er_eq, E_eq, gL_eq] at J2
    change W _ _ _ _ _ _ (envOf [(2, .v .bool q2)]) (hp (pushH (h)) [])
    refine W.ret (endsR rfl (.cons .v .nil) ?_ (fun _ => rfl))
    refine one_j J2 ?_
    · constructor; (intro c; exact ⟨by grind, by grind, fun k h0 h1 => by have := c.2; grind⟩); (intro k; have k1 := k.now; have k2 := k.few; have k3 := k.past; grind)
theorem c_spec_DeskOk (d : (((List (List Int)) × (List Int) × Unit) × (List ((List (List Int)) × (List Int) × Unit)) × Unit))  (h : Heap) : FnRes Try.prog G0 19 [.v (.cons (.cons (.sl (.sl (.int .i64))) (.cons (.sl (.int .i64)) .nil)) (.cons (.sl (.cons (.sl (.sl (.int .i64))) (.cons (.sl (.int .i64)) .nil))) .nil)) d] h (.v .bool (decide (IsDesk d))) h := by
  refine FnRes.intro (N := 27) (rs := [.tmp 2]) [some .bool] hL G0up Try.func19 rfl rfl rfl rfl rfl ?_
  refine W.seq ?_
  refine W.region ?_
  refine W.op rfl (opBoxV rfl rfl rfl) rfl ?_
  refine W.op rfl (opAssign rfl).sem rfl ?_
  refine W.end ?_
  refine W.seq ?_
  refine W.seq ?_
  refine W.region ?_
  refine W.op rfl (opAssign rfl).sem rfl ?_
  refine W.end ?_
  refine W.block ?_
  refine W.lp G0up [(1, _)] [(1, _)] (fun (k : Int) => [(3, .v (.int .i64) k)]) (fun (k : Int) => []) (fun (k : Int) => h) (fun (k : Int) => ((d.2.1.length : Int) - k).toNat) (fun (k : Int) => (0 ≤ k) ∧ (k ≤ (d.2.1.length : Int)) ∧ (∀ a : Int, 0 ≤ a → a < k → IsLog (gL d.2.1 a))) _ ?_ (eac rfl (eac rfl ean)) (hac rfl han) (fun _ => rfl) rfl ?_
  · exact ⟨(by omega), (by omega), (by intro a; omega)⟩
  rintro k ⟨hk0, hk1, hA⟩
  change W _ _ _ _ _ _ (envOf [(1, _), (3, .v (.int .i64) k)]) (hp (pushH (h)) [(1, _)])
  refine W.lenB (.own 1) 2 rfl rfl (fun hl_0 => ?_)
  unfold lenMax at hl_0
  try simp only [gi_eq, Er_eq, E_eq, gL_eq] at hl_0
  refine W.seq ?_
  refine W.seq ?_
  refine W.region ?_
  refine W.op rfl (opMove rfl).sem rfl ?_
  refine W.op rfl (opFieldBox hL rfl rfl rfl rfl).sem rfl ?_
  refine W.op rfl (opLoadBp hL rfl rfl rfl rfl).sem rfl ?_
  refine W.op rfl (opLen hL rfl rfl).sem rfl ?_
  refine W.opP rfl (opLss hL rfl rfl).sem rfl (fun c1 => ?_) (fun c1 => ?_)
  · skip
    try simp only [gi_eq, Er_eq, E_eq, gL_eq] at c1
    refine W.end ?_
    refine W.condT rfl ?_
    refine W.skip ?_
    refine W.seq ?_
    refine W.block ?_
    refine W.seq ?_
    refine W.region ?_
    refine W.op rfl (opFieldBox hL rfl rfl rfl rfl).sem rfl ?_
    refine W.op rfl (opLoadBp hL rfl rfl rfl rfl).sem rfl ?_
    refine W.op rfl (opMove rfl).sem rfl ?_
    refine W.op rfl (opIdx hL rfl rfl rfl ?_ ?_).sem rfl ?_
    · first | omega | ((try simp only [gi_eq, Er_eq, E_eq, gL_eq]); first | omega | grind)
    · first | omega | ((try simp only [gi_eq, Er_eq, E_eq, gL_eq]); first | omega | grind)
    refine W.op rfl (opLoad hL rfl rfl).sem rfl ?_
    refine W.opP rfl (opCallR [some (.cons (.sl (.sl (.int .i64))) (.cons (.sl (.int .i64)) .nil))] rfl (.cons .v .nil) (c_spec_LogicOk _ _)) rfl (fun c2 => ?_) (fun c2 => ?_)
    · skip
      try simp only [gi_eq, Er_eq, E_eq, gL_eq] at c2
      refine W.op rfl (opUn rfl).sem rfl ?_
      refine W.end ?_
      refine W.condF rfl ?_
      refine W.skip ?_
      refine W.blk ?_
      refine W.region ?_
      refine W.op rfl (opMove rfl).sem rfl ?_
      refine W.op rfl (opAdd hL rfl rfl ?_).sem rfl ?_
      · unfold In64; first | omega | ((try simp only [gi_eq, Er_eq, E_eq, gL_eq]); first | omega | grind)
      refine W.op rfl (opAssign rfl).sem rfl ?_
      refine W.end ?_
      refine W.nx G0up _ (eac rfl (eac rfl ean)) (hac rfl han) (fun _ => rfl) rfl ?_ ?_
      · try dsimp only
        omega
      · exact ⟨(by omega), (by omega), (by (try simp only [gi_eq, Er_eq, E_eq, gL_eq]); exact step_lt hA (by assumption))⟩
    · skip
      try simp only [gi_eq, Er_eq, E_eq, gL_eq] at c2
      refine W.op rfl (opUn rfl).sem rfl ?_
      refine W.end ?_
      refine W.condT rfl ?_
      refine W.seq ?_
      refine W.region ?_
      refine W.op rfl (opAssign rfl).sem rfl ?_
      refine W.end ?_
      refine W.ret (endsR rfl (.cons .v .nil) ?_ (fun _ => rfl))
      refine one_f ?_
      · first | (refine Iff.intro (fun c => ⟨c.1, c.2, fun k h0 h1 => hA k h0 (by omega)⟩) (fun k => ⟨k.now, k.few⟩)) | (exact fun k => by have k3 := k.past; grind)
  · skip
    try simp only [gi_eq, Er_eq, E_eq, gL_eq] at c1
    refine W.end ?_
    refine W.condF rfl ?_
    refine W.exit rfl ?_
    refine W.seq ?_
    refine W.jr [] [] (fun (q2 : Bool) => [(2, .v .bool q2)]) (fun (q2 : Bool) => (q2 = true ↔ ((IsLog d.1)) ∧ (((d.2.1.length : Int)) ≤ 8))) ean han (fun _ => rfl) ?_ ?_
    · skip
      refine W.region ?_
      refine W.op rfl (opFieldBox hL rfl rfl rfl rfl).sem rfl ?_
      refine W.op rfl (opLoadBp hL rfl rfl rfl rfl).sem rfl ?_
      refine W.opP rfl (opCallR [some (.cons (.sl (.sl (.int .i64))) (.cons (.sl (.int .i64)) .nil))] rfl (.cons (.agg rfl (.cons (.one .sl) (.cons (.one .sl) .nil))) .nil) (c_spec_LogicOk _ _)) rfl (fun c3 => ?_) (fun c3 => ?_)
      · skip
        try simp only [gi_eq, Er_eq, E_eq, gL_eq] at c3
        refine W.op rfl (opMove rfl).sem rfl ?_
        refine W.opG rfl rfl rfl rfl (opFieldBox hL rfl rfl rfl rfl).sem rfl ?_
        refine W.opG rfl rfl rfl rfl (opLoadBp hL rfl rfl rfl rfl).sem rfl ?_
        refine W.opG rfl rfl rfl rfl (opLen hL rfl rfl).sem rfl ?_
        refine W.opGP rfl rfl rfl rfl (opLeq hL rfl rfl).sem rfl (fun c4 => ?_) (fun c4 => ?_)
        · skip
          try simp only [gi_eq, Er_eq, E_eq, gL_eq] at c4
          refine W.op rfl (opPick rfl).sem rfl ?_
          refine W.op rfl (opAssign rfl).sem rfl ?_
          refine W.end ?_
          refine W.jx G0up _ (eac rfl ean) han (fun _ => rfl) rfl ?_
          · clear h; (try simp only [gi_eq, Er_eq, E_eq, gL_eq]); grind
        · skip
          try simp only [gi_eq, Er_eq, E_eq, gL_eq] at c4
          refine W.op rfl (opPick rfl).sem rfl ?_
          refine W.op rfl (opAssign rfl).sem rfl ?_
          refine W.end ?_
          refine W.jx G0up _ (eac rfl ean) han (fun _ => rfl) rfl ?_
          · clear h; (try simp only [gi_eq, Er_eq, E_eq, gL_eq]); grind
      · skip
        try simp only [gi_eq, Er_eq, E_eq, gL_eq] at c3
        refine W.op rfl (opMove rfl).sem rfl ?_
        refine W.off rfl rfl rfl rfl rfl rfl ?_
        refine W.off rfl rfl rfl rfl rfl rfl ?_
        refine W.off rfl rfl rfl rfl rfl rfl ?_
        refine W.off rfl rfl rfl rfl rfl rfl ?_
        refine W.op rfl (opPick rfl).sem rfl ?_
        refine W.op rfl (opAssign rfl).sem rfl ?_
        refine W.end ?_
        refine W.jx G0up _ (eac rfl ean) han (fun _ => rfl) rfl ?_
        · clear h; (try simp only [gi_eq, Er_eq, E_eq, gL_eq]); grind
    · rintro q2 J2
      try simp only [gi_eq, Er_eq, E_eq, gL_eq] at J2
      change W _ _ _ _ _ _ (envOf [(2, .v .bool q2)]) (hp (pushH (h)) [])
      refine W.ret (endsR rfl (.cons .v .nil) ?_ (fun _ => rfl))
      refine one_j J2 ?_
      · first | (refine Iff.intro (fun c => ⟨c.1, c.2, fun k h0 h1 => hA k h0 (by omega)⟩) (fun k => ⟨k.now, k.few⟩)) | (exact fun k => by have k3 := k.past; grind)
end Go.Vs

set_option linter.unusedVariables false
set_option linter.unusedSimpArgs false
set_option maxRecDepth 20000
set_option maxHeartbeats 4000000
namespace Go.Vs
open Go Go.RowKit Go.Proofs
open Classical
theorem c_laws_szIntS (a : (List Int)) (left : Int) (hp0 : -1 ≤ left ∧ left ≤ 1048576) (h : Heap) : FnRes Try.prog G0 115 [.v (.sl (.int .i64)) a, .v (.int .i64) left] h (.v (.int .i64) (szR a left)) h := by
  refine FnRes.intro (N := 12) (rs := [.tmp 4]) [some (.int .i64)] hL G0up Try.func115 rfl rfl rfl rfl rfl ?_
  refine W.lenV 0 rfl (fun hl0 => ?_)
  unfold lenMax at hl0
  refine W.seq ?_
  refine W.region ?_
  refine W.op rfl (opAssign rfl).sem rfl ?_
  refine W.end ?_
  refine W.seq ?_
  refine W.region ?_
  refine W.op rfl (opMove rfl).sem rfl ?_
  refine W.op rfl (opMove rfl).sem rfl ?_
  refine W.op rfl (opLen hL rfl rfl).sem rfl ?_
  refine W.op rfl (opSub hL rfl rfl ?_).sem rfl ?_
  · unfold In64; first | omega | ((try simp only [gi_eq]); first | omega | grind)
  refine W.op rfl (opAssign rfl).sem rfl ?_
  refine W.end ?_
  refine W.seq ?_
  refine W.seq ?_
  refine W.region ?_
  refine W.op rfl (opMove rfl).sem rfl ?_
  refine W.opP rfl (opLss hL rfl rfl).sem rfl (fun c1 => ?_) (fun c1 => ?_)
  · skip
    refine W.end ?_
    refine W.condT rfl ?_
    refine W.seq ?_
    refine W.region ?_
    refine W.op rfl (opAssign rfl).sem rfl ?_
    refine W.end ?_
    refine W.ret (endsR rfl (.cons .v .nil) ?_ (fun _ => rfl))
    refine one_v ?_
    · show (_ : Int) = _
      unfold szR; split <;> omega
  · skip
    refine W.end ?_
    refine W.condF rfl ?_
    refine W.skip ?_
    refine W.seq ?_
    refine W.region ?_
    refine W.op rfl (opMove rfl).sem rfl ?_
    refine W.op rfl (opAssign rfl).sem rfl ?_
    refine W.end ?_
    refine W.ret (endsR rfl (.cons .v .nil) ?_ (fun _ => rfl))
    refine one_v ?_
    · show (_ : Int) = _
      unfold szR; split <;> omega
theorem c_laws_szIntSS (a : (List (List Int))) (left : Int) (hp0 : -1 ≤ left ∧ left ≤ 1048576) (h : Heap) : FnRes Try.prog G0 114 [.v (.sl (.sl (.int .i64))) a, .v (.int .i64) left] h (.v (.int .i64) (szL szR a left)) h := by
  refine FnRes.intro (N := 27) (rs := [.tmp 4]) [some (.int .i64)] hL G0up Try.func114 rfl rfl rfl rfl rfl ?_
  refine W.lenV 0 rfl (fun hl0 => ?_)
  unfold lenMax at hl0
  refine W.seq ?_
  refine W.region ?_
  refine W.op rfl (opAssign rfl).sem rfl ?_
  refine W.end ?_
  refine W.seq ?_
  refine W.region ?_
  refine W.op rfl (opMove rfl).sem rfl ?_
  refine W.op rfl (opMove rfl).sem rfl ?_
  refine W.op rfl (opLen hL rfl rfl).sem rfl ?_
  refine W.op rfl (opSub hL rfl rfl ?_).sem rfl ?_
  · unfold In64; first | omega | ((try simp only [gi_eq]); first | omega | grind)
  refine W.op rfl (opAssign rfl).sem rfl ?_
  refine W.end ?_
  refine W.seq ?_
  refine W.seq ?_
  refine W.region ?_
  refine W.op rfl (opMove rfl).sem rfl ?_
  refine W.opP rfl (opLss hL rfl rfl).sem rfl (fun c1 => ?_) (fun c1 => ?_)
  · skip
    refine W.end ?_
    refine W.condT rfl ?_
    refine W.seq ?_
    refine W.region ?_
    refine W.op rfl (opAssign rfl).sem rfl ?_
    refine W.end ?_
    refine W.ret (endsR rfl (.cons .v .nil) ?_ (fun _ => rfl))
    refine one_v ?_
    · show (_ : Int) = _
      first | (unfold szL; rw [if_pos (by omega)]) | exact szGo_neg (by omega) (by assumption) hz (by assumption) | exact szGo_end (by assumption) hz
  · skip
    refine W.end ?_
    refine W.condF rfl ?_
    refine W.skip ?_
    refine W.seq ?_
    refine W.seq ?_
    refine W.region ?_
    refine W.op rfl (opAssign rfl).sem rfl ?_
    refine W.end ?_
    refine W.block ?_
    refine W.lp G0up [(0, _)] [] (fun ((lf, k) : Int × Int) => [(1, .v (.int .i64) lf), (5, .v (.int .i64) k)]) (fun ((lf, k) : Int × Int) => []) (fun ((lf, k) : Int × Int) => h) (fun ((lf, k) : Int × Int) => ((a.length : Int) - k).toNat) (fun ((lf, k) : Int × Int) => (0 ≤ k) ∧ (k ≤ (a.length : Int)) ∧ (0 ≤ lf ∧ lf ≤ 1048576) ∧ (szGo szR (a.drop k.toNat) lf = szL szR a left)) (_, _) ?_ (eac rfl (eac rfl (eac rfl ean))) han (fun _ => rfl) rfl ?_
    · exact ⟨(by omega), (by omega), (by omega), (by unfold szL; rw [if_neg (by omega)]; simp)⟩
    rintro ⟨lf, k⟩ ⟨hk0, hk1, hl, hz⟩
    change W _ _ _ _ _ _ (envOf [(0, _), (1, .v (.int .i64) lf), (5, .v (.int .i64) k)]) (hp (pushH (h)) [])
    refine W.lenV 0 rfl (fun hl_0 => ?_)
    unfold lenMax at hl_0
    refine W.seq ?_
    refine W.seq ?_
    refine W.region ?_
    refine W.op rfl (opMove rfl).sem rfl ?_
    refine W.op rfl (opMove rfl).sem rfl ?_
    refine W.op rfl (opLen hL rfl rfl).sem rfl ?_
    refine W.opP rfl (opLss hL rfl rfl).sem rfl (fun c2 => ?_) (fun c2 => ?_)
    · skip
      refine W.end ?_
      refine W.condT rfl ?_
      refine W.skip ?_
      refine W.seq ?_
      refine W.block ?_
      refine W.seq ?_
      refine W.region ?_
      refine W.op rfl (opMove rfl).sem rfl ?_
      refine W.op rfl (opMove rfl).sem rfl ?_
      refine W.op rfl (opIdx hL rfl rfl rfl ?_ ?_).sem rfl ?_
      · first | omega | ((try simp only [gi_eq]); first | omega | grind)
      · first | omega | ((try simp only [gi_eq]); first | omega | grind)
      refine W.op rfl (opLoad hL rfl rfl).sem rfl ?_
      refine W.op rfl (opMove rfl).sem rfl ?_
      refine W.op rfl (opCallR [some (.sl (.int .i64)), some (.int .i64)] rfl (.cons .v (.cons .v .nil)) (c_laws_szIntS _ _ ?_ _)) rfl ?_
      · omega
      refine W.op rfl (opAssign rfl).sem rfl ?_
      refine W.end ?_
      refine W.seq ?_
      refine W.region ?_
      refine W.op rfl (opMove rfl).sem rfl ?_
      refine W.opP rfl (opLss hL rfl rfl).sem rfl (fun c3 => ?_) (fun c3 => ?_)
      · skip
        refine W.end ?_
        refine W.condT rfl ?_
        refine W.seq ?_
        refine W.region ?_
        refine W.op rfl (opAssign rfl).sem rfl ?_
        refine W.end ?_
        refine W.ret (endsR rfl (.cons .v .nil) ?_ (fun _ => rfl))
        refine one_v ?_
        · show (_ : Int) = _
          first | (unfold szL; rw [if_pos (by omega)]) | exact szGo_neg (by omega) (by assumption) hz (by assumption) | exact szGo_end (by assumption) hz
      · skip
        refine W.end ?_
        refine W.condF rfl ?_
        refine W.skip ?_
        refine W.blk ?_
        refine W.region ?_
        refine W.op rfl (opMove rfl).sem rfl ?_
        refine W.op rfl (opAdd hL rfl rfl ?_).sem rfl ?_
        · unfold In64; first | omega | ((try simp only [gi_eq]); first | omega | grind)
        refine W.op rfl (opAssign rfl).sem rfl ?_
        refine W.end ?_
        refine W.nx G0up (_, _) (eac rfl (eac rfl (eac rfl ean))) han (fun _ => rfl) rfl ?_ ?_
        · try dsimp only
          omega
        · exact ⟨(by omega), (by omega), (by have := szR_ok (a.getD k.toNat (Ty.dflt (.sl (.int .i64)))) lf (by omega); omega), (by exact szGo_next (by omega) (by omega) hz (by assumption))⟩
    · skip
      refine W.end ?_
      refine W.condF rfl ?_
      refine W.exit rfl ?_
      refine W.seq ?_
      refine W.region ?_
      refine W.op rfl (opMove rfl).sem rfl ?_
      refine W.op rfl (opAssign rfl).sem rfl ?_
      refine W.end ?_
      refine W.ret (endsR rfl (.cons .v .nil) ?_ (fun _ => rfl))
      refine one_v ?_
      · show (_ : Int) = _
        first | (unfold szL; rw [if_pos (by omega)]) | exact szGo_neg (by omega) (by assumption) hz (by assumption) | exact szGo_end (by assumption) hz
theorem c_laws_szLogic (a : ((List (List Int)) × (List Int) × Unit)) (left : Int) (hp0 : -1 ≤ left ∧ left ≤ 1048576) (h : Heap) : FnRes Try.prog G0 57 [.v (.cons (.sl (.sl (.int .i64))) (.cons (.sl (.int .i64)) .nil)) a, .v (.int .i64) left] h (.v (.int .i64) (szLg a left)) h := by
  refine FnRes.intro (N := 18) (rs := [.tmp 4]) [some (.int .i64)] hL G0up Try.func57 rfl rfl rfl rfl rfl ?_
  refine W.seq ?_
  refine W.region ?_
  refine W.op rfl (opBoxV rfl rfl rfl) rfl ?_
  refine W.op rfl (opAssign rfl).sem rfl ?_
  refine W.end ?_
  refine W.seq ?_
  refine W.region ?_
  refine W.op rfl (opFieldBox hL rfl rfl rfl rfl).sem rfl ?_
  refine W.op rfl (opLoadBp hL rfl rfl rfl rfl).sem rfl ?_
  refine W.op rfl (opMove rfl).sem rfl ?_
  refine W.op rfl (opCallR [some (.sl (.sl (.int .i64))), some (.int .i64)] rfl (.cons .v (.cons .v .nil)) (c_laws_szIntSS _ _ ?_ _)) rfl ?_
  · omega
  refine W.op rfl (opAssign rfl).sem rfl ?_
  refine W.end ?_
  refine W.seq ?_
  refine W.seq ?_
  refine W.region ?_
  refine W.op rfl (opMove rfl).sem rfl ?_
  refine W.opP rfl (opLss hL rfl rfl).sem rfl (fun c1 => ?_) (fun c1 => ?_)
  · skip
    refine W.end ?_
    refine W.condT rfl ?_
    refine W.seq ?_
    refine W.region ?_
    refine W.op rfl (opAssign rfl).sem rfl ?_
    refine W.end ?_
    refine W.ret (endsR rfl (.cons .v .nil) ?_ (fun _ => rfl))
    refine one_v ?_
    · show (_ : Int) = _
      unfold szLg; have h2 := szR_ok a.2.1 (szL szR a.1 left); have h1 := szL_ok szR_ok a.1 left (by omega); split <;> omega
  · skip
    refine W.end ?_
    refine W.condF rfl ?_
    refine W.skip ?_
    refine W.seq ?_
    refine W.region ?_
    refine W.op rfl (opFieldBox hL rfl rfl rfl rfl).sem rfl ?_
    refine W.op rfl (opLoadBp hL rfl rfl rfl rfl).sem rfl ?_
    refine W.op rfl (opMove rfl).sem rfl ?_
    refine W.op rfl (opCallR [some (.sl (.int .i64)), some (.int .i64)] rfl (.cons .v (.cons .v .nil)) (c_laws_szIntS _ _ ?_ _)) rfl ?_
    · have := szL_ok szR_ok a.1 left (by omega); omega
    refine W.op rfl (opAssign rfl).sem rfl ?_
    refine W.end ?_
    refine W.seq ?_
    refine W.seq ?_
    refine W.region ?_
    refine W.op rfl (opMove rfl).sem rfl ?_
    refine W.opP rfl (opLss hL rfl rfl).sem rfl (fun c2 => ?_) (fun c2 => ?_)
    · skip
      refine W.end ?_
      refine W.condT rfl ?_
      refine W.seq ?_
      refine W.region ?_
      refine W.op rfl (opAssign rfl).sem rfl ?_
      refine W.end ?_
      refine W.ret (endsR rfl (.cons .v .nil) ?_ (fun _ => rfl))
      refine one_v ?_
      · show (_ : Int) = _
        unfold szLg; have h2 := szR_ok a.2.1 (szL szR a.1 left); have h1 := szL_ok szR_ok a.1 left (by omega); split <;> omega
    · skip
      refine W.end ?_
      refine W.condF rfl ?_
      refine W.skip ?_
      refine W.seq ?_
      refine W.region ?_
      refine W.op rfl (opMove rfl).sem rfl ?_
      refine W.op rfl (opAssign rfl).sem rfl ?_
      refine W.end ?_
      refine W.ret (endsR rfl (.cons .v .nil) ?_ (fun _ => rfl))
      refine one_v ?_
      · show (_ : Int) = _
        unfold szLg; have h2 := szR_ok a.2.1 (szL szR a.1 left); have h1 := szL_ok szR_ok a.1 left (by omega); split <;> omega
theorem c_laws_szLogicS (a : (List ((List (List Int)) × (List Int) × Unit))) (left : Int) (hp0 : -1 ≤ left ∧ left ≤ 1048576) (h : Heap) : FnRes Try.prog G0 58 [.v (.sl (.cons (.sl (.sl (.int .i64))) (.cons (.sl (.int .i64)) .nil))) a, .v (.int .i64) left] h (.v (.int .i64) (szL szLg a left)) h := by
  refine FnRes.intro (N := 27) (rs := [.tmp 4]) [some (.int .i64)] hL G0up Try.func58 rfl rfl rfl rfl rfl ?_
  refine W.lenV 0 rfl (fun hl0 => ?_)
  unfold lenMax at hl0
  refine W.seq ?_
  refine W.region ?_
  refine W.op rfl (opAssign rfl).sem rfl ?_
  refine W.end ?_
  refine W.seq ?_
  refine W.region ?_
  refine W.op rfl (opMove rfl).sem rfl ?_
  refine W.op rfl (opMove rfl).sem rfl ?_
  refine W.op rfl (opLen hL rfl rfl).sem rfl ?_
  refine W.op rfl (opSub hL rfl rfl ?_).sem rfl ?_
  · unfold In64; first | omega | ((try simp only [gi_eq]); first | omega | grind)
  refine W.op rfl (opAssign rfl).sem rfl ?_
  refine W.end ?_
  refine W.seq ?_
  refine W.seq ?_
  refine W.region ?_
  refine W.op rfl (opMove rfl).sem rfl ?_
  refine W.opP rfl (opLss hL rfl rfl).sem rfl (fun c1 => ?_) (fun c1 => ?_)
  · skip
    refine W.end ?_
    refine W.condT rfl ?_
    refine W.seq ?_
    refine W.region ?_
    refine W.op rfl (opAssign rfl).sem rfl ?_
    refine W.end ?_
    refine W.ret (endsR rfl (.cons .v .nil) ?_ (fun _ => rfl))
    refine one_v ?_
    · show (_ : Int) = _
      first | (unfold szL; rw [if_pos (by omega)]) | exact szGo_neg (by omega) (by assumption) hz (by assumption) | exact szGo_end (by assumption) hz
  · skip
    refine W.end ?_
    refine W.condF rfl ?_
    refine W.skip ?_
    refine W.seq ?_
    refine W.seq ?_
    refine W.region ?_
    refine W.op rfl (opAssign rfl).sem rfl ?_
    refine W.end ?_
    refine W.block ?_
    refine W.lp G0up [(0, _)] [] (fun ((lf, k) : Int × Int) => [(1, .v (.int .i64) lf), (5, .v (.int .i64) k)]) (fun ((lf, k) : Int × Int) => []) (fun ((lf, k) : Int × Int) => h) (fun ((lf, k) : Int × Int) => ((a.length : Int) - k).toNat) (fun ((lf, k) : Int × Int) => (0 ≤ k) ∧ (k ≤ (a.length : Int)) ∧ (0 ≤ lf ∧ lf ≤ 1048576) ∧ (szGo szLg (a.drop k.toNat) lf = szL szLg a left)) (_, _) ?_ (eac rfl (eac rfl (eac rfl ean))) han (fun _ => rfl) rfl ?_
    · exact ⟨(by omega), (by omega), (by omega), (by unfold szL; rw [if_neg (by omega)]; simp)⟩
    rintro ⟨lf, k⟩ ⟨hk0, hk1, hl, hz⟩
    change W _ _ _ _ _ _ (envOf [(0, _), (1, .v (.int .i64) lf), (5, .v (.int .i64) k)]) (hp (pushH (h)) [])
    refine W.lenV 0 rfl (fun hl_0 => ?_)
    unfold lenMax at hl_0
    refine W.seq ?_
    refine W.seq ?_
    refine W.region ?_
    refine W.op rfl (opMove rfl).sem rfl ?_
    refine W.op rfl (opMove rfl).sem rfl ?_
    refine W.op rfl (opLen hL rfl rfl).sem rfl ?_
    refine W.opP rfl (opLss hL rfl rfl).sem rfl (fun c2 => ?_) (fun c2 => ?_)
    · skip
      refine W.end ?_
      refine W.condT rfl ?_
      refine W.skip ?_
      refine W.seq ?_
      refine W.block ?_
      refine W.seq ?_
      refine W.region ?_
      refine W.op rfl (opMove rfl).sem rfl ?_
      refine W.op rfl (opMove rfl).sem rfl ?_
      refine W.op rfl (opIdx hL rfl rfl rfl ?_ ?_).sem rfl ?_
      · first | omega | ((try simp only [gi_eq]); first | omega | grind)
      · first | omega | ((try simp only [gi_eq]); first | omega | grind)
      refine W.op rfl (opLoad hL rfl rfl).sem rfl ?_
      refine W.op rfl (opMove rfl).sem rfl ?_
      refine W.op rfl (opCallR [some (.cons (.sl (.sl (.int .i64))) (.cons (.sl (.int .i64)) .nil)), some (.int .i64)] rfl (.cons .v (.cons .v .nil)) (c_laws_szLogic _ _ ?_ _)) rfl ?_
      · omega
      refine W.op rfl (opAssign rfl).sem rfl ?_
      refine W.end ?_
      refine W.seq ?_
      refine W.region ?_
      refine W.op rfl (opMove rfl).sem rfl ?_
      refine W.opP rfl (opLss hL rfl rfl).sem rfl (fun c3 => ?_) (fun c3 => ?_)
      · skip
        refine W.end ?_
        refine W.condT rfl ?_
        refine W.seq ?_
        refine W.region ?_
        refine W.op rfl (opAssign rfl).sem rfl ?_
        refine W.end ?_
        refine W.ret (endsR rfl (.cons .v .nil) ?_ (fun _ => rfl))
        refine one_v ?_
        · show (_ : Int) = _
          first | (unfold szL; rw [if_pos (by omega)]) | exact szGo_neg (by omega) (by assumption) hz (by assumption) | exact szGo_end (by assumption) hz
      · skip
        refine W.end ?_
        refine W.condF rfl ?_
        refine W.skip ?_
        refine W.blk ?_
        refine W.region ?_
        refine W.op rfl (opMove rfl).sem rfl ?_
        refine W.op rfl (opAdd hL rfl rfl ?_).sem rfl ?_
        · unfold In64; first | omega | ((try simp only [gi_eq]); first | omega | grind)
        refine W.op rfl (opAssign rfl).sem rfl ?_
        refine W.end ?_
        refine W.nx G0up (_, _) (eac rfl (eac rfl (eac rfl ean))) han (fun _ => rfl) rfl ?_ ?_
        · try dsimp only
          omega
        · exact ⟨(by omega), (by omega), (by have := szLg_ok (a.getD k.toNat (Ty.dflt (.cons (.sl (.sl (.int .i64))) (.cons (.sl (.int .i64)) .nil)))) lf (by omega); omega), (by exact szGo_next (by omega) (by omega) hz (by assumption))⟩
    · skip
      refine W.end ?_
      refine W.condF rfl ?_
      refine W.exit rfl ?_
      refine W.seq ?_
      refine W.region ?_
      refine W.op rfl (opMove rfl).sem rfl ?_
      refine W.op rfl (opAssign rfl).sem rfl ?_
      refine W.end ?_
      refine W.ret (endsR rfl (.cons .v .nil) ?_ (fun _ => rfl))
      refine one_v ?_
      · show (_ : Int) = _
        first | (unfold szL; rw [if_pos (by omega)]) | exact szGo_neg (by omega) (by assumption) hz (by assumption) | exact szGo_end (by assumption) hz
theorem c_laws_szDesk (a : (((List (List Int)) × (List Int) × Unit) × (List ((List (List Int)) × (List Int) × Unit)) × Unit)) (left : Int) (hp0 : -1 ≤ left ∧ left ≤ 1048576) (h : Heap) : FnRes Try.prog G0 18 [.v (.cons (.cons (.sl (.sl (.int .i64))) (.cons (.sl (.int .i64)) .nil)) (.cons (.sl (.cons (.sl (.sl (.int .i64))) (.cons (.sl (.int .i64)) .nil))) .nil)) a, .v (.int .i64) left] h (.v (.int .i64) (szDk a left)) h := by
  refine FnRes.intro (N := 18) (rs := [.tmp 4]) [some (.int .i64)] hL G0up Try.func18 rfl rfl rfl rfl rfl ?_
  refine W.seq ?_
  refine W.region ?_
  refine W.op rfl (opBoxV rfl rfl rfl) rfl ?_
  refine W.op rfl (opAssign rfl).sem rfl ?_
  refine W.end ?_
  refine W.seq ?_
  refine W.region ?_
  refine W.op rfl (opFieldBox hL rfl rfl rfl rfl).sem rfl ?_
  refine W.op rfl (opLoadBp hL rfl rfl rfl rfl).sem rfl ?_
  refine W.op rfl (opMove rfl).sem rfl ?_
  refine W.op rfl (opCallR [some (.cons (.sl (.sl (.int .i64))) (.cons (.sl (.int .i64)) .nil)), some (.int .i64)] rfl (.cons (.agg rfl (.cons (.one .sl) (.cons (.one .sl) .nil))) (.cons .v .nil)) (c_laws_szLogic a.1 _ ?_ _)) rfl ?_
  · omega
  refine W.op rfl (opAssign rfl).sem rfl ?_
  refine W.end ?_
  refine W.seq ?_
  refine W.seq ?_
  refine W.region ?_
  refine W.op rfl (opMove rfl).sem rfl ?_
  refine W.opP rfl (opLss hL rfl rfl).sem rfl (fun c1 => ?_) (fun c1 => ?_)
  · skip
    refine W.end ?_
    refine W.condT rfl ?_
    refine W.seq ?_
    refine W.region ?_
    refine W.op rfl (opAssign rfl).sem rfl ?_
    refine W.end ?_
    refine W.ret (endsR rfl (.cons .v .nil) ?_ (fun _ => rfl))
    refine one_v ?_
    · show (_ : Int) = _
      unfold szDk; have h2 := szL_ok szLg_ok a.2.1 (szLg a.1 left); have h1 := szLg_ok a.1 left (by omega); split <;> omega
  · skip
    refine W.end ?_
    refine W.condF rfl ?_
    refine W.skip ?_
    refine W.seq ?_
    refine W.region ?_
    refine W.op rfl (opFieldBox hL rfl rfl rfl rfl).sem rfl ?_
    refine W.op rfl (opLoadBp hL rfl rfl rfl rfl).sem rfl ?_
    refine W.op rfl (opMove rfl).sem rfl ?_
    refine W.op rfl (opCallR [some (.sl (.cons (.sl (.sl (.int .i64))) (.cons (.sl (.int .i64)) .nil))), some (.int .i64)] rfl (.cons .v (.cons .v .nil)) (c_laws_szLogicS _ _ ?_ _)) rfl ?_
    · have := szLg_ok a.1 left (by omega); omega
    refine W.op rfl (opAssign rfl).sem rfl ?_
    refine W.end ?_
    refine W.seq ?_
    refine W.seq ?_
    refine W.region ?_
    refine W.op rfl (opMove rfl).sem rfl ?_
    refine W.opP rfl (opLss hL rfl rfl).sem rfl (fun c2 => ?_) (fun c2 => ?_)
    · skip
      refine W.end ?_
      refine W.condT rfl ?_
      refine W.seq ?_
      refine W.region ?_
      refine W.op rfl (opAssign rfl).sem rfl ?_
      refine W.end ?_
      refine W.ret (endsR rfl (.cons .v .nil) ?_ (fun _ => rfl))
      refine one_v ?_
      · show (_ : Int) = _
        unfold szDk; have h2 := szL_ok szLg_ok a.2.1 (szLg a.1 left); have h1 := szLg_ok a.1 left (by omega); split <;> omega
    · skip
      refine W.end ?_
      refine W.condF rfl ?_
      refine W.skip ?_
      refine W.seq ?_
      refine W.region ?_
      refine W.op rfl (opMove rfl).sem rfl ?_
      refine W.op rfl (opAssign rfl).sem rfl ?_
      refine W.end ?_
      refine W.ret (endsR rfl (.cons .v .nil) ?_ (fun _ => rfl))
      refine one_v ?_
      · show (_ : Int) = _
        unfold szDk; have h2 := szL_ok szLg_ok a.2.1 (szLg a.1 left); have h1 := szLg_ok a.1 left (by omega); split <;> omega
end Go.Vs

set_option linter.unusedVariables false
set_option linter.unusedSimpArgs false
set_option maxRecDepth 20000
set_option maxHeartbeats 4000000
namespace Go.Vs
open Go Go.RowKit Go.Proofs
open Classical
theorem c_laws_toIntS (a : (List Int)) (hs : Sm1 a) (h : Heap) : FnRes Try.prog G0 119 [.v (.sl (.int .i64)) a] h (.v (.sl (.int .i64)) a) h := by
  refine FnRes.intro (N := 22) (rs := [.tmp 2]) [some (.sl (.int .i64))] hL G0up Try.func119 rfl rfl rfl rfl rfl ?_
  have hs1 : a.length ≤ 1048576 := hs
  refine W.seq ?_
  refine W.region ?_
  refine W.op rfl (opAssign rfl).sem rfl ?_
  refine W.end ?_
  refine W.seq ?_
  refine W.region ?_
  refine W.op rfl (opMove rfl).sem rfl ?_
  refine W.op rfl (opLen hL rfl rfl).sem rfl ?_
  refine W.op rfl (opMake hL rfl rfl rfl rfl ?_ ?_ rfl rfl) rfl ?_
  · first | omega | ((try simp only [gi_eq]); first | omega | grind)
  · first | omega | ((try simp only [gi_eq]); first | omega | grind)
  refine W.op rfl (opAssign rfl).sem rfl ?_
  refine W.end ?_
  refine W.seq ?_
  refine W.seq ?_
  refine W.region ?_
  refine W.op rfl (opAssign rfl).sem rfl ?_
  refine W.end ?_
  refine W.block ?_
  refine W.lp G0up [(0, _), (3, _)] [] (fun ((i, xs) : Int × List Int) => [(4, .v (.int .i64) i)]) (fun ((i, xs) : Int × List Int) => [(7, .row false 0 (.int .i64) (elt Try.prog 23) xs)]) (fun ((i, xs) : Int × List Int) => h) (fun ((i, xs) : Int × List Int) => ((a.length : Int) - i).toNat) (fun ((i, xs) : Int × List Int) => (0 ≤ i) ∧ (i ≤ (a.length : Int)) ∧ (Cp a xs i)) (_, _) ?_ (eac rfl (eac rfl (eac rfl ean))) (hac rfl han) (fun _ => rfl) rfl ?_
  · exact ⟨(by omega), (by omega), (by exact Cp.init)⟩
  rintro ⟨i, xs⟩ ⟨hi0, hi1, hc⟩
  change W _ _ _ _ _ _ (envOf [(0, _), (3, _), (4, .v (.int .i64) i)]) (hp (pushH (h)) [(7, .row false 0 (.int .i64) (elt Try.prog 23) xs)])
  refine W.lenV 0 rfl (fun hl_0 => ?_)
  unfold lenMax at hl_0
  refine W.seq ?_
  refine W.seq ?_
  refine W.region ?_
  refine W.op rfl (opMove rfl).sem rfl ?_
  refine W.op rfl (opMove rfl).sem rfl ?_
  refine W.op rfl (opLen hL rfl rfl).sem rfl ?_
  refine W.opP rfl (opLss hL rfl rfl).sem rfl (fun c1 => ?_) (fun c1 => ?_)
  · skip
    refine W.end ?_
    refine W.condT rfl ?_
    refine W.skip ?_
    refine W.seq ?_
    refine W.block ?_
    refine W.region ?_
    refine W.op rfl (opMove rfl).sem rfl ?_
    refine W.op rfl (opMove rfl).sem rfl ?_
    refine W.op rfl (opMove rfl).sem rfl ?_
    refine W.op rfl (opMove rfl).sem rfl ?_
    refine W.op rfl (opIdx hL rfl rfl rfl ?_ ?_).sem rfl ?_
    · first | omega | ((try simp only [gi_eq]); first | omega | grind)
    · first | omega | (have := hc.1; omega)
    refine W.op rfl (opLoad hL rfl rfl).sem rfl ?_
    refine W.op rfl (opIdxRw hL rfl rfl rfl rfl ?_ ?_).sem rfl ?_
    · first | omega | ((try simp only [gi_eq]); first | omega | grind)
    · first | omega | (have := hc.1; omega)
    refine W.op rfl (opStoreRpR hL rfl rfl rfl .v rfl rfl) rfl ?_
    refine W.end ?_
    refine W.blk ?_
    refine W.region ?_
    refine W.op rfl (opMove rfl).sem rfl ?_
    refine W.op rfl (opAdd hL rfl rfl ?_).sem rfl ?_
    · unfold In64; first | omega | ((try simp only [gi_eq]); first | omega | grind)
    refine W.op rfl (opAssign rfl).sem rfl ?_
    refine W.end ?_
    refine W.nx G0up (_, _) (eac rfl (eac rfl (eac rfl ean))) (hac rfl han) (fun _ => rfl) rfl ?_ ?_
    · try dsimp only
      omega
    · exact ⟨(by omega), (by omega), (by exact hc.step _ (by omega) (by omega))⟩
  · skip
    refine W.end ?_
    refine W.condF rfl ?_
    refine W.exit rfl ?_
    refine W.seq ?_
    refine W.region ?_
    refine W.op rfl (opMove rfl).sem rfl ?_
    refine W.op rfl (opAssign rfl).sem rfl ?_
    refine W.end ?_
    refine W.ret (endsR rfl (.cons (.one (.rw rfl)) .nil) ?_ (fun _ => rfl))
    refine one_v ?_
    · show (_ : (List Int)) = _
      exact hc.done (by assumption)
theorem c_laws_toIntSS (a : (List (List Int))) (hs : SmA Sm1 a) (h : Heap) : FnRes Try.prog G0 118 [.v (.sl (.sl (.int .i64))) a] h (.v (.sl (.sl (.int .i64))) a) h := by
  refine FnRes.intro (N := 23) (rs := [.tmp 2]) [some (.sl (.sl (.int .i64)))] hL G0up Try.func118 rfl rfl rfl rfl rfl ?_
  have hs1 : a.length ≤ 1048576 := hs.1
  refine W.seq ?_
  refine W.region ?_
  refine W.op rfl (opAssign rfl).sem rfl ?_
  refine W.end ?_
  refine W.seq ?_
  refine W.region ?_
  refine W.op rfl (opMove rfl).sem rfl ?_
  refine W.op rfl (opLen hL rfl rfl).sem rfl ?_
  refine W.op rfl (opMake hL rfl rfl rfl rfl ?_ ?_ rfl rfl) rfl ?_
  · first | omega | ((try simp only [gi_eq]); first | omega | grind)
  · first | omega | ((try simp only [gi_eq]); first | omega | grind)
  refine W.op rfl (opAssign rfl).sem rfl ?_
  refine W.end ?_
  refine W.seq ?_
  refine W.seq ?_
  refine W.region ?_
  refine W.op rfl (opAssign rfl).sem rfl ?_
  refine W.end ?_
  refine W.block ?_
  refine W.lp G0up [(0, _), (3, _)] [] (fun ((i, xs) : Int × List (List Int)) => [(4, .v (.int .i64) i)]) (fun ((i, xs) : Int × List (List Int)) => [(7, .row false 0 (.sl (.int .i64)) (elt Try.prog 22) xs)]) (fun ((i, xs) : Int × List (List Int)) => h) (fun ((i, xs) : Int × List (List Int)) => ((a.length : Int) - i).toNat) (fun ((i, xs) : Int × List (List Int)) => (0 ≤ i) ∧ (i ≤ (a.length : Int)) ∧ (Cp a xs i)) (_, _) ?_ (eac rfl (eac rfl (eac rfl ean))) (hac rfl han) (fun _ => rfl) rfl ?_
  · exact ⟨(by omega), (by omega), (by exact Cp.init)⟩
  rintro ⟨i, xs⟩ ⟨hi0, hi1, hc⟩
  change W _ _ _ _ _ _ (envOf [(0, _), (3, _), (4, .v (.int .i64) i)]) (hp (pushH (h)) [(7, .row false 0 (.sl (.int .i64)) (elt Try.prog 22) xs)])
  refine W.lenV 0 rfl (fun hl_0 => ?_)
  unfold lenMax at hl_0
  refine W.seq ?_
  refine W.seq ?_
  refine W.region ?_
  refine W.op rfl (opMove rfl).sem rfl ?_
  refine W.op rfl (opMove rfl).sem rfl ?_
  refine W.op rfl (opLen hL rfl rfl).sem rfl ?_
  refine W.opP rfl (opLss hL rfl rfl).sem rfl (fun c1 => ?_) (fun c1 => ?_)
  · skip
    refine W.end ?_
    refine W.condT rfl ?_
    refine W.skip ?_
    refine W.seq ?_
    refine W.block ?_
    refine W.region ?_
    refine W.op rfl (opMove rfl).sem rfl ?_
    refine W.op rfl (opMove rfl).sem rfl ?_
    refine W.op rfl (opMove rfl).sem rfl ?_
    refine W.op rfl (opMove rfl).sem rfl ?_
    refine W.op rfl (opIdx hL rfl rfl rfl ?_ ?_).sem rfl ?_
    · first | omega | ((try simp only [gi_eq]); first | omega | grind)
    · first | omega | (have := hc.1; omega)
    refine W.op rfl (opLoad hL rfl rfl).sem rfl ?_
    refine W.op rfl (opCallR [some (.sl (.int .i64))] rfl (.cons .v .nil) (c_laws_toIntS _ ?_ _)) rfl ?_
    · exact hs.get _ (by omega) (by omega)
    refine W.op rfl (opIdxRw hL rfl rfl rfl rfl ?_ ?_).sem rfl ?_
    · first | omega | ((try simp only [gi_eq]); first | omega | grind)
    · first | omega | (have := hc.1; omega)
    refine W.op rfl (opStoreRpR hL rfl rfl rfl .v rfl rfl) rfl ?_
    refine W.end ?_
    refine W.blk ?_
    refine W.region ?_
    refine W.op rfl (opMove rfl).sem rfl ?_
    refine W.op rfl (opAdd hL rfl rfl ?_).sem rfl ?_
    · unfold In64; first | omega | ((try simp only [gi_eq]); first | omega | grind)
    refine W.op rfl (opAssign rfl).sem rfl ?_
    refine W.end ?_
    refine W.nx G0up (_, _) (eac rfl (eac rfl (eac rfl ean))) (hac rfl han) (fun _ => rfl) rfl ?_ ?_
    · try dsimp only
      omega
    · exact ⟨(by omega), (by omega), (by exact hc.step _ (by omega) (by omega))⟩
  · skip
    refine W.end ?_
    refine W.condF rfl ?_
    refine W.exit rfl ?_
    refine W.seq ?_
    refine W.region ?_
    refine W.op rfl (opMove rfl).sem rfl ?_
    refine W.op rfl (opAssign rfl).sem rfl ?_
    refine W.end ?_
    refine W.ret (endsR rfl (.cons (.one (.rw rfl)) .nil) ?_ (fun _ => rfl))
    refine one_v ?_
    · show (_ : (List (List Int))) = _
      exact hc.done (by assumption)
theorem c_laws_toLogic (a : ((List (List Int)) × (List Int) × Unit)) (hs : SmLg a) (h : Heap) : FnRes Try.prog G0 60 [.v (.cons (.sl (.sl (.int .i64))) (.cons (.sl (.int .i64)) .nil)) a] h (.v (.cons (.sl (.sl (.int .i64))) (.cons (.sl (.int .i64)) .nil)) a) h := by
  refine FnRes.intro (N := 13) (rs := [.cell 2 25]) [some (.cons (.sl (.sl (.int .i64))) (.cons (.sl (.int .i64)) .nil))] hL G0up Try.func60 rfl rfl rfl rfl rfl ?_
  refine W.seq ?_
  refine W.region ?_
  refine W.op rfl (opBoxV rfl rfl rfl) rfl ?_
  refine W.op rfl (opAlloc hL rfl rfl rfl) rfl ?_
  refine W.end ?_
  refine W.seq ?_
  refine W.region ?_
  refine W.op rfl (opAlloc hL rfl rfl rfl) rfl ?_
  refine W.end ?_
  refine W.seq ?_
  refine W.region ?_
  refine W.op rfl (opFieldBox hL rfl rfl rfl rfl).sem rfl ?_
  refine W.op rfl (opLoadBp hL rfl rfl rfl rfl).sem rfl ?_
  refine W.op rfl (opCallR [some (.sl (.sl (.int .i64)))] rfl (.cons .v .nil) (c_laws_toIntSS _ ?_ _)) rfl ?_
  · exact hs.1
  refine W.op rfl (opFieldBox hL rfl rfl rfl rfl).sem rfl ?_
  refine W.op rfl (opStore hL rfl rfl rfl rfl (okBs_ok rfl) rfl rfl rfl) rfl ?_
  refine W.end ?_
  refine W.seq ?_
  refine W.region ?_
  refine W.op rfl (opFieldBox hL rfl rfl rfl rfl).sem rfl ?_
  refine W.op rfl (opLoadBp hL rfl rfl rfl rfl).sem rfl ?_
  refine W.op rfl (opCallR [some (.sl (.int .i64))] rfl (.cons .v .nil) (c_laws_toIntS _ ?_ _)) rfl ?_
  · exact hs.2
  refine W.op rfl (opFieldBox hL rfl rfl rfl rfl).sem rfl ?_
  refine W.op rfl (opStore hL rfl rfl rfl rfl (okBs_ok rfl) rfl rfl rfl) rfl ?_
  refine W.end ?_
  refine W.seq ?_
  refine W.region ?_
  refine W.op rfl (opLoadBp hL rfl rfl rfl rfl).sem rfl ?_
  refine W.op rfl (opStore hL rfl rfl rfl rfl (okBs_ok rfl) rfl rfl rfl) rfl ?_
  refine W.end ?_
  refine W.ret (endsR rfl (.cons (.agg rfl (.cons (.one .sl) (.cons (.one .sl) .nil))) .nil) ?_ (fun _ => rfl))
  refine one_v ?_
  · show (_ : ((List (List Int)) × (List Int) × Unit)) = _
    rfl
theorem c_laws_toLogicS (a : (List ((List (List Int)) × (List Int) × Unit))) (hs : SmA SmLg a) (h : Heap) : FnRes Try.prog G0 61 [.v (.sl (.cons (.sl (.sl (.int .i64))) (.cons (.sl (.int .i64)) .nil))) a] h (.v (.sl (.cons (.sl (.sl (.int .i64))) (.cons (.sl (.int .i64)) .nil))) a) h := by
  refine FnRes.intro (N := 23) (rs := [.tmp 2]) [some (.sl (.cons (.sl (.sl (.int .i64))) (.cons (.sl (.int .i64)) .nil)))] hL G0up Try.func61 rfl rfl rfl rfl rfl ?_
  have hs1 : a.length ≤ 1048576 := hs.1
  refine W.seq ?_
  refine W.region ?_
  refine W.op rfl (opAssign rfl).sem rfl ?_
  refine W.end ?_
  refine W.seq ?_
  refine W.region ?_
  refine W.op rfl (opMove rfl).sem rfl ?_
  refine W.op rfl (opLen hL rfl rfl).sem rfl ?_
  refine W.op rfl (opMake hL rfl rfl rfl rfl ?_ ?_ rfl rfl) rfl ?_
  · first | omega | ((try simp only [gi_eq]); first | omega | grind)
  · first | omega | ((try simp only [gi_eq]); first | omega | grind)
  refine W.op rfl (opAssign rfl).sem rfl ?_
  refine W.end ?_
  refine W.seq ?_
  refine W.seq ?_
  refine W.region ?_
  refine W.op rfl (opAssign rfl).sem rfl ?_
  refine W.end ?_
  refine W.block ?_
  refine W.lp G0up [(0, _), (3, _)] [] (fun ((i, xs) : Int × List ((List (List Int)) × (List Int) × Unit)) => [(4, .v (.int .i64) i)]) (fun ((i, xs) : Int × List ((List (List Int)) × (List Int) × Unit)) => [(7, .row false 0 (.cons (.sl (.sl (.int .i64))) (.cons (.sl (.int .i64)) .nil)) (elt Try.prog 26) xs)]) (fun ((i, xs) : Int × List ((List (List Int)) × (List Int) × Unit)) => h) (fun ((i, xs) : Int × List ((List (List Int)) × (List Int) × Unit)) => ((a.length : Int) - i).toNat) (fun ((i, xs) : Int × List ((List (List Int)) × (List Int) × Unit)) => (0 ≤ i) ∧ (i ≤ (a.length : Int)) ∧ (Cp a xs i)) (_, _) ?_ (eac rfl (eac rfl (eac rfl ean))) (hac rfl han) (fun _ => rfl) rfl ?_
  · exact ⟨(by omega), (by omega), (by exact Cp.init)⟩
  rintro ⟨i, xs⟩ ⟨hi0, hi1, hc⟩
  change W _ _ _ _ _ _ (envOf [(0, _), (3, _), (4, .v (.int .i64) i)]) (hp (pushH (h)) [(7, .row false 0 (.cons (.sl (.sl (.int .i64))) (.cons (.sl (.int .i64)) .nil)) (elt Try.prog 26) xs)])
  refine W.lenV 0 rfl (fun hl_0 => ?_)
  unfold lenMax at hl_0
  refine W.seq ?_
  refine W.seq ?_
  refine W.region ?_
  refine W.op rfl (opMove rfl).sem rfl ?_
  refine W.op rfl (opMove rfl).sem rfl ?_
  refine W.op rfl (opLen hL rfl rfl).sem rfl ?_
  refine W.opP rfl (opLss hL rfl rfl).sem rfl (fun c1 => ?_) (fun c1 => ?_)
  · skip
    refine W.end ?_
    refine W.condT rfl ?_
    refine W.skip ?_
    refine W.seq ?_
    refine W.block ?_
    refine W.region ?_
    refine W.op rfl (opMove rfl).sem rfl ?_
    refine W.op rfl (opMove rfl).sem rfl ?_
    refine W.op rfl (opMove rfl).sem rfl ?_
    refine W.op rfl (opMove rfl).sem rfl ?_
    refine W.op rfl (opIdx hL rfl rfl rfl ?_ ?_).sem rfl ?_
    · first | omega | ((try simp only [gi_eq]); first | omega | grind)
    · first | omega | (have := hc.1; omega)
    refine W.op rfl (opLoad hL rfl rfl).sem rfl ?_
    refine W.op rfl (opCallR [some (.cons (.sl (.sl (.int .i64))) (.cons (.sl (.int .i64)) .nil))] rfl (.cons .v .nil) (c_laws_toLogic _ ?_ _)) rfl ?_
    · exact hs.get _ (by omega) (by omega)
    refine W.op rfl (opIdxRw hL rfl rfl rfl rfl ?_ ?_).sem rfl ?_
    · first | omega | ((try simp only [gi_eq]); first | omega | grind)
    · first | omega | (have := hc.1; omega)
    refine W.op rfl (opStoreRpR hL rfl rfl rfl .v rfl rfl) rfl ?_
    refine W.end ?_
    refine W.blk ?_
    refine W.region ?_
    refine W.op rfl (opMove rfl).sem rfl ?_
    refine W.op rfl (opAdd hL rfl rfl ?_).sem rfl ?_
    · unfold In64; first | omega | ((try simp only [gi_eq]); first | omega | grind)
    refine W.op rfl (opAssign rfl).sem rfl ?_
    refine W.end ?_
    refine W.nx G0up (_, _) (eac rfl (eac rfl (eac rfl ean))) (hac rfl han) (fun _ => rfl) rfl ?_ ?_
    · try dsimp only
      omega
    · exact ⟨(by omega), (by omega), (by exact hc.step _ (by omega) (by omega))⟩
  · skip
    refine W.end ?_
    refine W.condF rfl ?_
    refine W.exit rfl ?_
    refine W.seq ?_
    refine W.region ?_
    refine W.op rfl (opMove rfl).sem rfl ?_
    refine W.op rfl (opAssign rfl).sem rfl ?_
    refine W.end ?_
    refine W.ret (endsR rfl (.cons (.one (.rw rfl)) .nil) ?_ (fun _ => rfl))
    refine one_v ?_
    · show (_ : (List ((List (List Int)) × (List Int) × Unit))) = _
      exact hc.done (by assumption)
theorem c_laws_toDesk (a : (((List (List Int)) × (List Int) × Unit) × (List ((List (List Int)) × (List Int) × Unit)) × Unit)) (hs : SmDk a) (h : Heap) : FnRes Try.prog G0 20 [.v (.cons (.cons (.sl (.sl (.int .i64))) (.cons (.sl (.int .i64)) .nil)) (.cons (.sl (.cons (.sl (.sl (.int .i64))) (.cons (.sl (.int .i64)) .nil))) .nil)) a] h (.v (.cons (.cons (.sl (.sl (.int .i64))) (.cons (.sl (.int .i64)) .nil)) (.cons (.sl (.cons (.sl (.sl (.int .i64))) (.cons (.sl (.int .i64)) .nil))) .nil)) a) h := by
  refine FnRes.intro (N := 13) (rs := [.cell 2 28]) [some (.cons (.cons (.sl (.sl (.int .i64))) (.cons (.sl (.int .i64)) .nil)) (.cons (.sl (.cons (.sl (.sl (.int .i64))) (.cons (.sl (.int .i64)) .nil))) .nil))] hL G0up Try.func20 rfl rfl rfl rfl rfl ?_
  refine W.seq ?_
  refine W.region ?_
  refine W.op rfl (opBoxV rfl rfl rfl) rfl ?_
  refine W.op rfl (opAlloc hL rfl rfl rfl) rfl ?_
  refine W.end ?_
  refine W.seq ?_
  refine W.region ?_
  refine W.op rfl (opAlloc hL rfl rfl rfl) rfl ?_
  refine W.end ?_
  refine W.seq ?_
  refine W.region ?_
  refine W.op rfl (opFieldBox hL rfl rfl rfl rfl).sem rfl ?_
  refine W.op rfl (opLoadBp hL rfl rfl rfl rfl).sem rfl ?_
  refine W.op rfl (opCallR [some (.cons (.sl (.sl (.int .i64))) (.cons (.sl (.int .i64)) .nil))] rfl (.cons (.agg rfl (.cons (.one .sl) (.cons (.one .sl) .nil))) .nil) (c_laws_toLogic a.1 ?_ _)) rfl ?_
  · exact hs.1
  refine W.op rfl (opFieldBox hL rfl rfl rfl rfl).sem rfl ?_
  refine W.op rfl (opStore hL rfl rfl rfl rfl (okBs_ok rfl) rfl rfl rfl) rfl ?_
  refine W.end ?_
  refine W.seq ?_
  refine W.region ?_
  refine W.op rfl (opFieldBox hL rfl rfl rfl rfl).sem rfl ?_
  refine W.op rfl (opLoadBp hL rfl rfl rfl rfl).sem rfl ?_
  refine W.op rfl (opCallR [some (.sl (.cons (.sl (.sl (.int .i64))) (.cons (.sl (.int .i64)) .nil)))] rfl (.cons .v .nil) (c_laws_toLogicS _ ?_ _)) rfl ?_
  · exact hs.2
  refine W.op rfl (opFieldBox hL rfl rfl rfl rfl).sem rfl ?_
  refine W.op rfl (opStore hL rfl rfl rfl rfl (okBs_ok rfl) rfl rfl rfl) rfl ?_
  refine W.end ?_
  refine W.seq ?_
  refine W.region ?_
  refine W.op rfl (opLoadBp hL rfl rfl rfl rfl).sem rfl ?_
  refine W.op rfl (opStore hL rfl rfl rfl rfl (okBs_ok rfl) rfl rfl rfl) rfl ?_
  refine W.end ?_
  refine W.ret (endsR rfl (.cons (.agg rfl (.cons (.cons (.one .sl) (.cons (.one .sl) .nil)) (.cons (.one .sl) .nil))) .nil) ?_ (fun _ => rfl))
  refine one_v ?_
  · show (_ : (((List (List Int)) × (List Int) × Unit) × (List ((List (List Int)) × (List Int) × Unit)) × Unit)) = _
    rfl
theorem c_laws_eqIntS (a : (List Int)) (b : (List Int))  (h : Heap) : FnRes Try.prog G0 105 [.v (.sl (.int .i64)) a, .v (.sl (.int .i64)) b] h (.v .bool (decide (a = b))) h := by
  refine FnRes.intro (N := 26) (rs := [.tmp 4]) [some .bool] hL G0up Try.func105 rfl rfl rfl rfl rfl ?_
  refine W.lenV 0 rfl (fun hl0 => ?_)
  unfold lenMax at hl0
  refine W.seq ?_
  refine W.region ?_
  refine W.op rfl (opAssign rfl).sem rfl ?_
  refine W.end ?_
  refine W.seq ?_
  refine W.seq ?_
  refine W.region ?_
  refine W.op rfl (opMove rfl).sem rfl ?_
  refine W.op rfl (opLen hL rfl rfl).sem rfl ?_
  refine W.op rfl (opMove rfl).sem rfl ?_
  refine W.op rfl (opLen hL rfl rfl).sem rfl ?_
  refine W.opP rfl (opNeI hL rfl rfl).sem rfl (fun c1 => ?_) (fun c1 => ?_)
  · skip
    refine W.end ?_
    refine W.condT rfl ?_
    refine W.seq ?_
    refine W.region ?_
    refine W.op rfl (opAssign rfl).sem rfl ?_
    refine W.end ?_
    refine W.ret (endsR rfl (.cons .v .nil) ?_ (fun _ => rfl))
    refine one_f ?_
    · skip
      rintro rfl; first | omega | contradiction
  · skip
    refine W.end ?_
    refine W.condF rfl ?_
    refine W.skip ?_
    refine W.seq ?_
    refine W.seq ?_
    refine W.region ?_
    refine W.op rfl (opAssign rfl).sem rfl ?_
    refine W.end ?_
    refine W.block ?_
    refine W.lp G0up [(0, _), (1, _)] [] (fun (i : Int) => [(5, .v (.int .i64) i)]) (fun (i : Int) => []) (fun (i : Int) => h) (fun (i : Int) => ((a.length : Int) - i).toNat) (fun (i : Int) => (0 ≤ i) ∧ (i ≤ (a.length : Int)) ∧ (Al (Ty.dflt (.int .i64)) a b i)) _ ?_ (eac rfl (eac rfl (eac rfl ean))) han (fun _ => rfl) rfl ?_
    · exact ⟨(by omega), (by omega), (by intro j; omega)⟩
    rintro i ⟨hi0, hi1, ha⟩
    change W _ _ _ _ _ _ (envOf [(0, _), (1, _), (5, .v (.int .i64) i)]) (hp (pushH (h)) [])
    refine W.lenV 0 rfl (fun hl_0 => ?_)
    unfold lenMax at hl_0
    refine W.seq ?_
    refine W.seq ?_
    refine W.region ?_
    refine W.op rfl (opMove rfl).sem rfl ?_
    refine W.op rfl (opMove rfl).sem rfl ?_
    refine W.op rfl (opLen hL rfl rfl).sem rfl ?_
    refine W.opP rfl (opLss hL rfl rfl).sem rfl (fun c2 => ?_) (fun c2 => ?_)
    · skip
      refine W.end ?_
      refine W.condT rfl ?_
      refine W.skip ?_
      refine W.seq ?_
      refine W.block ?_
      refine W.seq ?_
      refine W.any [⟨[0], [], none⟩, ⟨[5], [], none⟩, ⟨[17, 18], [], none⟩, ⟨[19], [], none⟩, ⟨[1], [], none⟩, ⟨[5], [], none⟩, ⟨[21, 22], [], none⟩, ⟨[23], [], none⟩, ⟨[20, 24], [], none⟩] hM (by kernel_rfl) ?_
      refine AW.op rfl (ARead.sem fun e' h' ha => opMove rfl) rfl trivial ?_
      refine AW.op rfl (ARead.sem fun e' h' ha => opMove rfl) rfl trivial ?_
      refine AW.op rfl (ARead.sem fun e' h' ha => opIdx hL rfl rfl rfl (by clear ha; first | omega | ((try simp only [gi_eq]); first | omega | grind)) (by clear ha; first | omega | ((try simp only [gi_eq]); first | omega | grind))) rfl trivial ?_
      refine AW.op rfl (ARead.sem fun e' h' ha => opLoad hL rfl rfl) rfl trivial ?_
      refine AW.op rfl (ARead.sem fun e' h' ha => opMove rfl) rfl trivial ?_
      refine AW.op rfl (ARead.sem fun e' h' ha => opMove rfl) rfl trivial ?_
      refine AW.op rfl (ARead.sem fun e' h' ha => opIdx hL rfl rfl rfl (by clear ha; first | omega | ((try simp only [gi_eq]); first | omega | grind)) (by clear ha; first | omega | ((try simp only [gi_eq]); first | omega | grind))) rfl trivial ?_
      refine AW.op rfl (ARead.sem fun e' h' ha => opLoad hL rfl rfl) rfl trivial ?_
      refine AW.opP rfl (ARead.sem fun e' h' ha => opNeI hL rfl rfl) rfl (fun c3 => ?_) (fun c3 => ?_)
      · skip
        refine AW.end ?_
        refine W.condT rfl ?_
        refine W.seq ?_
        refine W.region ?_
        refine W.op rfl (opAssign rfl).sem rfl ?_
        refine W.end ?_
        refine W.ret (endsR rfl (.cons .v .nil) ?_ (fun _ => rfl))
        refine one_f ?_
        · skip
          rintro rfl; first | omega | contradiction
      · skip
        refine AW.end ?_
        refine W.condF rfl ?_
        refine W.skip ?_
        refine W.blk ?_
        refine W.region ?_
        refine W.op rfl (opMove rfl).sem rfl ?_
        refine W.op rfl (opAdd hL rfl rfl ?_).sem rfl ?_
        · unfold In64; first | omega | ((try simp only [gi_eq]); first | omega | grind)
        refine W.op rfl (opAssign rfl).sem rfl ?_
        refine W.end ?_
        refine W.nx G0up _ (eac rfl (eac rfl (eac rfl ean))) han (fun _ => rfl) rfl ?_ ?_
        · try dsimp only
          omega
        · exact ⟨(by omega), (by omega), (by exact ha.step (Classical.not_not.1 (by assumption)))⟩
    · skip
      refine W.end ?_
      refine W.condF rfl ?_
      refine W.exit rfl ?_
      refine W.seq ?_
      refine W.region ?_
      refine W.op rfl (opAssign rfl).sem rfl ?_
      refine W.end ?_
      refine W.ret (endsR rfl (.cons .v .nil) ?_ (fun _ => rfl))
      refine one_t ?_
      · skip
        exact Al.done (by omega) ha (by assumption)
theorem c_laws_eqIntSS (a : (List (List Int))) (b : (List (List Int)))  (h : Heap) : FnRes Try.prog G0 104 [.v (.sl (.sl (.int .i64))) a, .v (.sl (.sl (.int .i64))) b] h (.v .bool (decide (a = b))) h := by
  refine FnRes.intro (N := 27) (rs := [.tmp 4]) [some .bool] hL G0up Try.func104 rfl rfl rfl rfl rfl ?_
  refine W.lenV 0 rfl (fun hl0 => ?_)
  unfold lenMax at hl0
  refine W.seq ?_
  refine W.region ?_
  refine W.op rfl (opAssign rfl).sem rfl ?_
  refine W.end ?_
  refine W.seq ?_
  refine W.seq ?_
  refine W.region ?_
  refine W.op rfl (opMove rfl).sem rfl ?_
  refine W.op rfl (opLen hL rfl rfl).sem rfl ?_
  refine W.op rfl (opMove rfl).sem rfl ?_
  refine W.op rfl (opLen hL rfl rfl).sem rfl ?_
  refine W.opP rfl (opNeI hL rfl rfl).sem rfl (fun c1 => ?_) (fun c1 => ?_)
  · skip
    refine W.end ?_
    refine W.condT rfl ?_
    refine W.seq ?_
    refine W.region ?_
    refine W.op rfl (opAssign rfl).sem rfl ?_
    refine W.end ?_
    refine W.ret (endsR rfl (.cons .v .nil) ?_ (fun _ => rfl))
    refine one_f ?_
    · skip
      rintro rfl; first | omega | contradiction
  · skip
    refine W.end ?_
    refine W.condF rfl ?_
    refine W.skip ?_
    refine W.seq ?_
    refine W.seq ?_
    refine W.region ?_
    refine W.op rfl (opAssign rfl).sem rfl ?_
    refine W.end ?_
    refine W.block ?_
    refine W.lp G0up [(0, _), (1, _)] [] (fun (i : Int) => [(5, .v (.int .i64) i)]) (fun (i : Int) => []) (fun (i : Int) => h) (fun (i : Int) => ((a.length : Int) - i).toNat) (fun (i : Int) => (0 ≤ i) ∧ (i ≤ (a.length : Int)) ∧ (Al (Ty.dflt (.sl (.int .i64))) a b i)) _ ?_ (eac rfl (eac rfl (eac rfl ean))) han (fun _ => rfl) rfl ?_
    · exact ⟨(by omega), (by omega), (by intro j; omega)⟩
    rintro i ⟨hi0, hi1, ha⟩
    change W _ _ _ _ _ _ (envOf [(0, _), (1, _), (5, .v (.int .i64) i)]) (hp (pushH (h)) [])
    refine W.lenV 0 rfl (fun hl_0 => ?_)
    unfold lenMax at hl_0
    refine W.seq ?_
    refine W.seq ?_
    refine W.region ?_
    refine W.op rfl (opMove rfl).sem rfl ?_
    refine W.op rfl (opMove rfl).sem rfl ?_
    refine W.op rfl (opLen hL rfl rfl).sem rfl ?_
    refine W.opP rfl (opLss hL rfl rfl).sem rfl (fun c2 => ?_) (fun c2 => ?_)
    · skip
      refine W.end ?_
      refine W.condT rfl ?_
      refine W.skip ?_
      refine W.seq ?_
      refine W.block ?_
      refine W.seq ?_
      refine W.any [⟨[0], [], none⟩, ⟨[5], [], none⟩, ⟨[17, 18], [], none⟩, ⟨[19], [], none⟩, ⟨[1], [], none⟩, ⟨[5], [], none⟩, ⟨[21, 22], [], none⟩, ⟨[23], [], none⟩, ⟨[20, 24], [], none⟩, ⟨[25], [], none⟩] hM (by kernel_rfl) ?_
      refine AW.op rfl (ARead.sem fun e' h' ha => opMove rfl) rfl trivial ?_
      refine AW.op rfl (ARead.sem fun e' h' ha => opMove rfl) rfl trivial ?_
      refine AW.op rfl (ARead.sem fun e' h' ha => opIdx hL rfl rfl rfl (by clear ha; first | omega | ((try simp only [gi_eq]); first | omega | grind)) (by clear ha; first | omega | ((try simp only [gi_eq]); first | omega | grind))) rfl trivial ?_
      refine AW.op rfl (ARead.sem fun e' h' ha => opLoad hL rfl rfl) rfl trivial ?_
      refine AW.op rfl (ARead.sem fun e' h' ha => opMove rfl) rfl trivial ?_
      refine AW.op rfl (ARead.sem fun e' h' ha => opMove rfl) rfl trivial ?_
      refine AW.op rfl (ARead.sem fun e' h' ha => opIdx hL rfl rfl rfl (by clear ha; first | omega | ((try simp only [gi_eq]); first | omega | grind)) (by clear ha; first | omega | ((try simp only [gi_eq]); first | omega | grind))) rfl trivial ?_
      refine AW.op rfl (ARead.sem fun e' h' ha => opLoad hL rfl rfl) rfl trivial ?_
      refine AW.opP rfl (fun e' h' ha => opCallR [some (.sl (.int .i64)), some (.sl (.int .i64))] rfl (.cons .v (.cons .v .nil)) (c_laws_eqIntS _ _ _)) rfl (fun c3 => ?_) (fun c3 => ?_)
      · skip
        refine AW.op rfl (ARead.sem fun e' h' ha => opUn rfl) rfl trivial ?_
        refine AW.end ?_
        refine W.condF rfl ?_
        refine W.skip ?_
        refine W.blk ?_
        refine W.region ?_
        refine W.op rfl (opMove rfl).sem rfl ?_
        refine W.op rfl (opAdd hL rfl rfl ?_).sem rfl ?_
        · unfold In64; first | omega | ((try simp only [gi_eq]); first | omega | grind)
        refine W.op rfl (opAssign rfl).sem rfl ?_
        refine W.end ?_
        refine W.nx G0up _ (eac rfl (eac rfl (eac rfl ean))) han (fun _ => rfl) rfl ?_ ?_
        · try dsimp only
          omega
        · exact ⟨(by omega), (by omega), (by exact ha.step (by assumption))⟩
      · skip
        refine AW.op rfl (ARead.sem fun e' h' ha => opUn rfl) rfl trivial ?_
        refine AW.end ?_
        refine W.condT rfl ?_
        refine W.seq ?_
        refine W.region ?_
        refine W.op rfl (opAssign rfl).sem rfl ?_
        refine W.end ?_
        refine W.ret (endsR rfl (.cons .v .nil) ?_ (fun _ => rfl))
        refine one_f ?_
        · skip
          rintro rfl; first | omega | contradiction
    · skip
      refine W.end ?_
      refine W.condF rfl ?_
      refine W.exit rfl ?_
      refine W.seq ?_
      refine W.region ?_
      refine W.op rfl (opAssign rfl).sem rfl ?_
      refine W.end ?_
      refine W.ret (endsR rfl (.cons .v .nil) ?_ (fun _ => rfl))
      refine one_t ?_
      · skip
        exact Al.done (by omega) ha (by assumption)
theorem c_laws_eqLogic (a : ((List (List Int)) × (List Int) × Unit)) (b : ((List (List Int)) × (List Int) × Unit))  (h : Heap) : FnRes Try.prog G0 47 [.v (.cons (.sl (.sl (.int .i64))) (.cons (.sl (.int .i64)) .nil)) a, .v (.cons (.sl (.sl (.int .i64))) (.cons (.sl (.int .i64)) .nil)) b] h (.v .bool (decide (a = b))) h := by
  refine FnRes.intro (N := 17) (rs := [.tmp 4]) [some .bool] hL G0up Try.func47 rfl rfl rfl rfl rfl ?_
  refine W.seq ?_
  refine W.region ?_
  refine W.op rfl (opBoxV rfl rfl rfl) rfl ?_
  refine W.op rfl (opBoxV rfl rfl rfl) rfl ?_
  refine W.op rfl (opAssign rfl).sem rfl ?_
  refine W.end ?_
  refine W.seq ?_
  refine W.seq ?_
  refine W.region ?_
  refine W.op rfl (opFieldBox hL rfl rfl rfl rfl).sem rfl ?_
  refine W.op rfl (opLoadBp hL rfl rfl rfl rfl).sem rfl ?_
  refine W.op rfl (opFieldBox hL rfl rfl rfl rfl).sem rfl ?_
  refine W.op rfl (opLoadBp hL rfl rfl rfl rfl).sem rfl ?_
  refine W.opP rfl (opCallR [some (.sl (.sl (.int .i64))), some (.sl (.sl (.int .i64)))] rfl (.cons .v (.cons .v .nil)) (c_laws_eqIntSS _ _ _)) rfl (fun c1 => ?_) (fun c1 => ?_)
  · skip
    refine W.op rfl (opUn rfl).sem rfl ?_
    refine W.end ?_
    refine W.condF rfl ?_
    refine W.skip ?_
    refine W.seq ?_
    refine W.seq ?_
    refine W.region ?_
    refine W.op rfl (opFieldBox hL rfl rfl rfl rfl).sem rfl ?_
    refine W.op rfl (opLoadBp hL rfl rfl rfl rfl).sem rfl ?_
    refine W.op rfl (opFieldBox hL rfl rfl rfl rfl).sem rfl ?_
    refine W.op rfl (opLoadBp hL rfl rfl rfl rfl).sem rfl ?_
    refine W.opP rfl (opCallR [some (.sl (.int .i64)), some (.sl (.int .i64))] rfl (.cons .v (.cons .v .nil)) (c_laws_eqIntS _ _ _)) rfl (fun c2 => ?_) (fun c2 => ?_)
    · skip
      refine W.op rfl (opUn rfl).sem rfl ?_
      refine W.end ?_
      refine W.condF rfl ?_
      refine W.skip ?_
      refine W.seq ?_
      refine W.region ?_
      refine W.op rfl (opAssign rfl).sem rfl ?_
      refine W.end ?_
      refine W.ret (endsR rfl (.cons .v .nil) ?_ (fun _ => rfl))
      refine one_t ?_
      · skip
        exact Prod.ext (by assumption) (Prod.ext (by assumption) rfl)
    · skip
      refine W.op rfl (opUn rfl).sem rfl ?_
      refine W.end ?_
      refine W.condT rfl ?_
      refine W.seq ?_
      refine W.region ?_
      refine W.op rfl (opAssign rfl).sem rfl ?_
      refine W.end ?_
      refine W.ret (endsR rfl (.cons .v .nil) ?_ (fun _ => rfl))
      refine one_f ?_
      · skip
        rintro rfl; contradiction
  · skip
    refine W.op rfl (opUn rfl).sem rfl ?_
    refine W.end ?_
    refine W.condT rfl ?_
    refine W.seq ?_
    refine W.region ?_
    refine W.op rfl (opAssign rfl).sem rfl ?_
    refine W.end ?_
    refine W.ret (endsR rfl (.cons .v .nil) ?_ (fun _ => rfl))
    refine one_f ?_
    · skip
      rintro rfl; contradiction
theorem c_laws_eqLogicS (a : (List ((List (List Int)) × (List Int) × Unit))) (b : (List ((List (List Int)) × (List Int) × Unit)))  (h : Heap) : FnRes Try.prog G0 48 [.v (.sl (.cons (.sl (.sl (.int .i64))) (.cons (.sl (.int .i64)) .nil))) a, .v (.sl (.cons (.sl (.sl (.int .i64))) (.cons (.sl (.int .i64)) .nil))) b] h (.v .bool (decide (a = b))) h := by
  refine FnRes.intro (N := 27) (rs := [.tmp 4]) [some .bool] hL G0up Try.func48 rfl rfl rfl rfl rfl ?_
  refine W.lenV 0 rfl (fun hl0 => ?_)
  unfold lenMax at hl0
  refine W.seq ?_
  refine W.region ?_
  refine W.op rfl (opAssign rfl).sem rfl ?_
  refine W.end ?_
  refine W.seq ?_
  refine W.seq ?_
  refine W.region ?_
  refine W.op rfl (opMove rfl).sem rfl ?_
  refine W.op rfl (opLen hL rfl rfl).sem rfl ?_
  refine W.op rfl (opMove rfl).sem rfl ?_
  refine W.op rfl (opLen hL rfl rfl).sem rfl ?_
  refine W.opP rfl (opNeI hL rfl rfl).sem rfl (fun c1 => ?_) (fun c1 => ?_)
  · skip
    refine W.end ?_
    refine W.condT rfl ?_
    refine W.seq ?_
    refine W.region ?_
    refine W.op rfl (opAssign rfl).sem rfl ?_
    refine W.end ?_
    refine W.ret (endsR rfl (.cons .v .nil) ?_ (fun _ => rfl))
    refine one_f ?_
    · skip
      rintro rfl; first | omega | contradiction
  · skip
    refine W.end ?_
    refine W.condF rfl ?_
    refine W.skip ?_
    refine W.seq ?_
    refine W.seq ?_
    refine W.region ?_
    refine W.op rfl (opAssign rfl).sem rfl ?_
    refine W.end ?_
    refine W.block ?_
    refine W.lp G0up [(0, _), (1, _)] [] (fun (i : Int) => [(5, .v (.int .i64) i)]) (fun (i : Int) => []) (fun (i : Int) => h) (fun (i : Int) => ((a.length : Int) - i).toNat) (fun (i : Int) => (0 ≤ i) ∧ (i ≤ (a.length : Int)) ∧ (Al (Ty.dflt (.cons (.sl (.sl (.int .i64))) (.cons (.sl (.int .i64)) .nil))) a b i)) _ ?_ (eac rfl (eac rfl (eac rfl ean))) han (fun _ => rfl) rfl ?_
    · exact ⟨(by omega), (by omega), (by intro j; omega)⟩
    rintro i ⟨hi0, hi1, ha⟩
    change W _ _ _ _ _ _ (envOf [(0, _), (1, _), (5, .v (.int .i64) i)]) (hp (pushH (h)) [])
    refine W.lenV 0 rfl (fun hl_0 => ?_)
    unfold lenMax at hl_0
    refine W.seq ?_
    refine W.seq ?_
    refine W.region ?_
    refine W.op rfl (opMove rfl).sem rfl ?_
    refine W.op rfl (opMove rfl).sem rfl ?_
    refine W.op rfl (opLen hL rfl rfl).sem rfl ?_
    refine W.opP rfl (opLss hL rfl rfl).sem rfl (fun c2 => ?_) (fun c2 => ?_)
    · skip
      refine W.end ?_
      refine W.condT rfl ?_
      refine W.skip ?_
      refine W.seq ?_
      refine W.block ?_
      refine W.seq ?_
      refine W.any [⟨[0], [], none⟩, ⟨[5], [], none⟩, ⟨[17, 18], [], none⟩, ⟨[19], [], none⟩, ⟨[1], [], none⟩, ⟨[5], [], none⟩, ⟨[21, 22], [], none⟩, ⟨[23], [], none⟩, ⟨[20, 24], [], none⟩, ⟨[25], [], none⟩] hM (by kernel_rfl) ?_
      refine AW.op rfl (ARead.sem fun e' h' ha => opMove rfl) rfl trivial ?_
      refine AW.op rfl (ARead.sem fun e' h' ha => opMove rfl) rfl trivial ?_
      refine AW.op rfl (ARead.sem fun e' h' ha => opIdx hL rfl rfl rfl (by clear ha; first | omega | ((try simp only [gi_eq]); first | omega | grind)) (by clear ha; first | omega | ((try simp only [gi_eq]); first | omega | grind))) rfl trivial ?_
      refine AW.op rfl (ARead.sem fun e' h' ha => opLoad hL rfl rfl) rfl trivial ?_
      refine AW.op rfl (ARead.sem fun e' h' ha => opMove rfl) rfl trivial ?_
      refine AW.op rfl (ARead.sem fun e' h' ha => opMove rfl) rfl trivial ?_
      refine AW.op rfl (ARead.sem fun e' h' ha => opIdx hL rfl rfl rfl (by clear ha; first | omega | ((try simp only [gi_eq]); first | omega | grind)) (by clear ha; first | omega | ((try simp only [gi_eq]); first | omega | grind))) rfl trivial ?_
      refine AW.op rfl (ARead.sem fun e' h' ha => opLoad hL rfl rfl) rfl trivial ?_
      refine AW.opP rfl (fun e' h' ha => opCallR [some (.cons (.sl (.sl (.int .i64))) (.cons (.sl (.int .i64)) .nil)), some (.cons (.sl (.sl (.int .i64))) (.cons (.sl (.int .i64)) .nil))] rfl (.cons .v (.cons .v .nil)) (c_laws_eqLogic _ _ _)) rfl (fun c3 => ?_) (fun c3 => ?_)
      · skip
        refine AW.op rfl (ARead.sem fun e' h' ha => opUn rfl) rfl trivial ?_
        refine AW.end ?_
        refine W.condF rfl ?_
        refine W.skip ?_
        refine W.blk ?_
        refine W.region ?_
        refine W.op rfl (opMove rfl).sem rfl ?_
        refine W.op rfl (opAdd hL rfl rfl ?_).sem rfl ?_
        · unfold In64; first | omega | ((try simp only [gi_eq]); first | omega | grind)
        refine W.op rfl (opAssign rfl).sem rfl ?_
        refine W.end ?_
        refine W.nx G0up _ (eac rfl (eac rfl (eac rfl ean))) han (fun _ => rfl) rfl ?_ ?_
        · try dsimp only
          omega
        · exact ⟨(by omega), (by omega), (by exact ha.step (by assumption))⟩
      · skip
        refine AW.op rfl (ARead.sem fun e' h' ha => opUn rfl) rfl trivial ?_
        refine AW.end ?_
        refine W.condT rfl ?_
        refine W.seq ?_
        refine W.region ?_
        refine W.op rfl (opAssign rfl).sem rfl ?_
        refine W.end ?_
        refine W.ret (endsR rfl (.cons .v .nil) ?_ (fun _ => rfl))
        refine one_f ?_
        · skip
          rintro rfl; first | omega | contradiction
    · skip
      refine W.end ?_
      refine W.condF rfl ?_
      refine W.exit rfl ?_
      refine W.seq ?_
      refine W.region ?_
      refine W.op rfl (opAssign rfl).sem rfl ?_
      refine W.end ?_
      refine W.ret (endsR rfl (.cons .v .nil) ?_ (fun _ => rfl))
      refine one_t ?_
      · skip
        exact Al.done (by omega) ha (by assumption)
theorem c_laws_eqDesk (a : (((List (List Int)) × (List Int) × Unit) × (List ((List (List Int)) × (List Int) × Unit)) × Unit)) (b : (((List (List Int)) × (List Int) × Unit) × (List ((List (List Int)) × (List Int) × Unit)) × Unit))  (h : Heap) : FnRes Try.prog G0 13 [.v (.cons (.cons (.sl (.sl (.int .i64))) (.cons (.sl (.int .i64)) .nil)) (.cons (.sl (.cons (.sl (.sl (.int .i64))) (.cons (.sl (.int .i64)) .nil))) .nil)) a, .v (.cons (.cons (.sl (.sl (.int .i64))) (.cons (.sl (.int .i64)) .nil)) (.cons (.sl (.cons (.sl (.sl (.int .i64))) (.cons (.sl (.int .i64)) .nil))) .nil)) b] h (.v .bool (decide (a = b))) h := by
  refine FnRes.intro (N := 17) (rs := [.tmp 4]) [some .bool] hL G0up Try.func13 rfl rfl rfl rfl rfl ?_
  refine W.seq ?_
  refine W.region ?_
  refine W.op rfl (opBoxV rfl rfl rfl) rfl ?_
  refine W.op rfl (opBoxV rfl rfl rfl) rfl ?_
  refine W.op rfl (opAssign rfl).sem rfl ?_
  refine W.end ?_
  refine W.seq ?_
  refine W.seq ?_
  refine W.region ?_
  refine W.op rfl (opFieldBox hL rfl rfl rfl rfl).sem rfl ?_
  refine W.op rfl (opLoadBp hL rfl rfl rfl rfl).sem rfl ?_
  refine W.op rfl (opFieldBox hL rfl rfl rfl rfl).sem rfl ?_
  refine W.op rfl (opLoadBp hL rfl rfl rfl rfl).sem rfl ?_
  refine W.opP rfl (opCallR [some (.cons (.sl (.sl (.int .i64))) (.cons (.sl (.int .i64)) .nil)), some (.cons (.sl (.sl (.int .i64))) (.cons (.sl (.int .i64)) .nil))] rfl (.cons (.agg rfl (.cons (.one .sl) (.cons (.one .sl) .nil))) (.cons (.agg rfl (.cons (.one .sl) (.cons (.one .sl) .nil))) .nil)) (c_laws_eqLogic a.1 b.1 _)) rfl (fun c1 => ?_) (fun c1 => ?_)
  · skip
    refine W.op rfl (opUn rfl).sem rfl ?_
    refine W.end ?_
    refine W.condF rfl ?_
    refine W.skip ?_
    refine W.seq ?_
    refine W.seq ?_
    refine W.region ?_
    refine W.op rfl (opFieldBox hL rfl rfl rfl rfl).sem rfl ?_
    refine W.op rfl (opLoadBp hL rfl rfl rfl rfl).sem rfl ?_
    refine W.op rfl (opFieldBox hL rfl rfl rfl rfl).sem rfl ?_
    refine W.op rfl (opLoadBp hL rfl rfl rfl rfl).sem rfl ?_
    refine W.opP rfl (opCallR [some (.sl (.cons (.sl (.sl (.int .i64))) (.cons (.sl (.int .i64)) .nil))), some (.sl (.cons (.sl (.sl (.int .i64))) (.cons (.sl (.int .i64)) .nil)))] rfl (.cons .v (.cons .v .nil)) (c_laws_eqLogicS _ _ _)) rfl (fun c2 => ?_) (fun c2 => ?_)
    · skip
      refine W.op rfl (opUn rfl).sem rfl ?_
      refine W.end ?_
      refine W.condF rfl ?_
      refine W.skip ?_
      refine W.seq ?_
      refine W.region ?_
      refine W.op rfl (opAssign rfl).sem rfl ?_
      refine W.end ?_
      refine W.ret (endsR rfl (.cons .v .nil) ?_ (fun _ => rfl))
      refine one_t ?_
      · skip
        exact Prod.ext (by assumption) (Prod.ext (by assumption) rfl)
    · skip
      refine W.op rfl (opUn rfl).sem rfl ?_
      refine W.end ?_
      refine W.condT rfl ?_
      refine W.seq ?_
      refine W.region ?_
      refine W.op rfl (opAssign rfl).sem rfl ?_
      refine W.end ?_
      refine W.ret (endsR rfl (.cons .v .nil) ?_ (fun _ => rfl))
      refine one_f ?_
      · skip
        rintro rfl; contradiction
  · skip
    refine W.op rfl (opUn rfl).sem rfl ?_
    refine W.end ?_
    refine W.condT rfl ?_
    refine W.seq ?_
    refine W.region ?_
    refine W.op rfl (opAssign rfl).sem rfl ?_
    refine W.end ?_
    refine W.ret (endsR rfl (.cons .v .nil) ?_ (fun _ => rfl))
    refine one_f ?_
    · skip
      rintro rfl; contradiction
theorem c_laws_FnExactDeskOk (d : (((List (List Int)) × (List Int) × Unit) × (List ((List (List Int)) × (List Int) × Unit)) × Unit))  (h : Heap) : FnRes Try.prog G0 5 [.v (.cons (.cons (.sl (.sl (.int .i64))) (.cons (.sl (.int .i64)) .nil)) (.cons (.sl (.cons (.sl (.sl (.int .i64))) (.cons (.sl (.int .i64)) .nil))) .nil)) d] h (.v .bool true) h := by
  refine FnRes.intro (N := 27) (rs := [.tmp 2]) [some .bool] hL G0up Try.func5 rfl rfl rfl rfl rfl ?_
  refine W.seq ?_
  refine W.region ?_
  refine W.op rfl (opBoxV rfl rfl rfl) rfl ?_
  refine W.op rfl (opAssign rfl).sem rfl ?_
  refine W.end ?_
  refine W.seq ?_
  refine W.region ?_
  refine W.op rfl (opAssign rfl).sem rfl ?_
  refine W.end ?_
  refine W.seq ?_
  refine W.region ?_
  refine W.op rfl (opLoadBp hL rfl rfl rfl rfl).sem rfl ?_
  refine W.op rfl (opMove rfl).sem rfl ?_
  refine W.op rfl (opCallR [some (.cons (.cons (.sl (.sl (.int .i64))) (.cons (.sl (.int .i64)) .nil)) (.cons (.sl (.cons (.sl (.sl (.int .i64))) (.cons (.sl (.int .i64)) .nil))) .nil)), some (.int .i64)] rfl (.cons (.agg rfl (.cons (.cons (.one .sl) (.cons (.one .sl) .nil)) (.cons (.one .sl) .nil))) (.cons .v .nil)) (c_laws_szDesk d _ ?_ _)) rfl ?_
  · omega
  refine W.op rfl (opAssign rfl).sem rfl ?_
  refine W.end ?_
  refine W.seq ?_
  refine W.seq ?_
  refine W.region ?_
  refine W.op rfl (opMove rfl).sem rfl ?_
  refine W.opP rfl (opLss hL rfl rfl).sem rfl (fun c1 => ?_) (fun c1 => ?_)
  · skip
    refine W.end ?_
    refine W.condT rfl ?_
    refine W.seq ?_
    refine W.region ?_
    refine W.op rfl (opAssign rfl).sem rfl ?_
    refine W.end ?_
    refine W.ret (endsR rfl (.cons .v .nil) ?_ (fun _ => rfl))
    refine one_v ?_
    · skip
      first | rfl | contradiction | simp_all
  · skip
    refine W.end ?_
    refine W.condF rfl ?_
    refine W.skip ?_
    refine W.seq ?_
    refine W.region ?_
    refine W.op rfl (opLoadBp hL rfl rfl rfl rfl).sem rfl ?_
    refine W.op rfl (opCallR [some (.cons (.cons (.sl (.sl (.int .i64))) (.cons (.sl (.int .i64)) .nil)) (.cons (.sl (.cons (.sl (.sl (.int .i64))) (.cons (.sl (.int .i64)) .nil))) .nil))] rfl (.cons (.agg rfl (.cons (.cons (.one .sl) (.cons (.one .sl) .nil)) (.cons (.one .sl) .nil))) .nil) (c_laws_toDesk d ?_ _)) rfl ?_
    · exact szDk_small (n := 1048576) (by omega) (by omega) (by omega)
    refine W.opP rfl (opCallR [some (.cons (.cons (.sl (.sl (.int .i64))) (.cons (.sl (.int .i64)) .nil)) (.cons (.sl (.cons (.sl (.sl (.int .i64))) (.cons (.sl (.int .i64)) .nil))) .nil))] rfl (.cons .v .nil) (c_spec_DeskOk _ _)) rfl (fun c2 => ?_) (fun c2 => ?_)
    · skip
      refine W.op rfl (opAssign rfl).sem rfl ?_
      refine W.end ?_
      refine W.seq ?_
      refine W.region ?_
      refine W.op rfl (opLoadBp hL rfl rfl rfl rfl).sem rfl ?_
      refine W.op rfl (opCallR [some (.cons (.cons (.sl (.sl (.int .i64))) (.cons (.sl (.int .i64)) .nil)) (.cons (.sl (.cons (.sl (.sl (.int .i64))) (.cons (.sl (.int .i64)) .nil))) .nil))] rfl (.cons (.agg rfl (.cons (.cons (.one .sl) (.cons (.one .sl) .nil)) (.cons (.one .sl) .nil))) .nil) (c_laws_toDesk d ?_ _)) rfl ?_
      · exact szDk_small (n := 1048576) (by omega) (by omega) (by omega)
      refine W.op rfl (opAlloc hL rfl rfl rfl) rfl ?_
      refine W.op rfl (opStore hL rfl rfl rfl rfl (okBs_ok rfl) rfl rfl rfl) rfl ?_
      refine W.end ?_
      refine W.seq ?_
      refine W.region ?_
      refine W.op rfl (opLoadBp hL rfl rfl rfl rfl).sem rfl ?_
      refine W.opP rfl (opCallR [some (.cons (.cons (.sl (.sl (.int .i64))) (.cons (.sl (.int .i64)) .nil)) (.cons (.sl (.cons (.sl (.sl (.int .i64))) (.cons (.sl (.int .i64)) .nil))) .nil))] rfl (.cons (.agg rfl (.cons (.cons (.one .sl) (.cons (.one .sl) .nil)) (.cons (.one .sl) .nil))) .nil) (c_impl_DeskOk d _)) rfl (fun c3 => ?_) (fun c3 => ?_)
      · skip
        refine W.op rfl (opAssign rfl).sem rfl ?_
        refine W.end ?_
        refine W.seq ?_
        refine W.seq ?_
        refine W.region ?_
        refine W.op rfl (opMove rfl).sem rfl ?_
        refine W.op rfl (opMove rfl).sem rfl ?_
        refine W.opB rfl (opBin hL rfl).sem rfl (fun c4 => ?_) (fun c4 => ?_)
        · skip
          refine W.end ?_
          refine W.condT rfl ?_
          refine W.seq ?_
          refine W.region ?_
          refine W.op rfl (opAssign rfl).sem rfl ?_
          refine W.end ?_
          refine W.ret (endsR rfl (.cons .v .nil) ?_ (fun _ => rfl))
          refine one_v ?_
          · skip
            first | rfl | contradiction | simp_all
        · skip
          refine W.end ?_
          refine W.condF rfl ?_
          refine W.skip ?_
          refine W.seq ?_
          refine W.seq ?_
          refine W.any [⟨[5], [.own 5], none⟩, ⟨[1], [.own 1], none⟩, ⟨[23], [], none⟩, ⟨[22, 24], [], none⟩, ⟨[25], [], none⟩] hM (by kernel_rfl) ?_
          refine AW.op rfl (ARead.sem fun e' h' ha => opLoadBp hL rfl rfl ((ha _ rfl).trans rfl) rfl) rfl trivial ?_
          refine AW.op rfl (ARead.sem fun e' h' ha => opLoadBp hL rfl rfl ((ha _ rfl).trans rfl) rfl) rfl trivial ?_
          refine AW.op (eff := none) rfl (fun e' h' ha => opCallR [some (.cons (.cons (.sl (.sl (.int .i64))) (.cons (.sl (.int .i64)) .nil)) (.cons (.sl (.cons (.sl (.sl (.int .i64))) (.cons (.sl (.int .i64)) .nil))) .nil))] rfl (.cons (.agg rfl (.cons (.cons (.one .sl) (.cons (.one .sl) .nil)) (.cons (.one .sl) .nil))) .nil) (c_laws_toDesk d (by clear ha; exact szDk_small (n := 1048576) (by omega) (by omega) (by omega)) _)) rfl trivial ?_
          refine AW.opP rfl (fun e' h' ha => opCallR [some (.cons (.cons (.sl (.sl (.int .i64))) (.cons (.sl (.int .i64)) .nil)) (.cons (.sl (.cons (.sl (.sl (.int .i64))) (.cons (.sl (.int .i64)) .nil))) .nil)), some (.cons (.cons (.sl (.sl (.int .i64))) (.cons (.sl (.int .i64)) .nil)) (.cons (.sl (.cons (.sl (.sl (.int .i64))) (.cons (.sl (.int .i64)) .nil))) .nil))] rfl (.cons (.agg rfl (.cons (.cons (.one .sl) (.cons (.one .sl) .nil)) (.cons (.one .sl) .nil))) (.cons .v .nil)) (c_laws_eqDesk d _ _)) rfl (fun c5 => ?_) (fun c5 => ?_)
          · skip
            refine AW.op rfl (ARead.sem fun e' h' ha => opUn rfl) rfl trivial ?_
            refine AW.end ?_
            refine W.condF rfl ?_
            refine W.skip ?_
            refine W.seq ?_
            refine W.region ?_
            refine W.op rfl (opAssign rfl).sem rfl ?_
            refine W.end ?_
            refine W.ret (endsR rfl (.cons .v .nil) ?_ (fun _ => rfl))
            refine one_v ?_
            · skip
              first | rfl | contradiction | simp_all
          · skip
            refine AW.op rfl (ARead.sem fun e' h' ha => opUn rfl) rfl trivial ?_
            refine AW.end ?_
            refine W.condT rfl ?_
            refine W.seq ?_
            refine W.region ?_
            refine W.op rfl (opAssign rfl).sem rfl ?_
            refine W.end ?_
            refine W.ret (endsR rfl (.cons .v .nil) ?_ (fun _ => rfl))
            refine one_v ?_
            · skip
              first | rfl | contradiction | simp_all
      · skip
        refine W.op rfl (opAssign rfl).sem rfl ?_
        refine W.end ?_
        refine W.seq ?_
        refine W.seq ?_
        refine W.region ?_
        refine W.op rfl (opMove rfl).sem rfl ?_
        refine W.op rfl (opMove rfl).sem rfl ?_
        refine W.opB rfl (opBin hL rfl).sem rfl (fun c6 => ?_) (fun c6 => ?_)
        · skip
          refine W.end ?_
          refine W.condT rfl ?_
          refine W.seq ?_
          refine W.region ?_
          refine W.op rfl (opAssign rfl).sem rfl ?_
          refine W.end ?_
          refine W.ret (endsR rfl (.cons .v .nil) ?_ (fun _ => rfl))
          refine one_v ?_
          · skip
            first | rfl | contradiction | simp_all
        · skip
          refine W.end ?_
          refine W.condF rfl ?_
          refine W.skip ?_
          refine W.seq ?_
          refine W.seq ?_
          refine W.any [⟨[5], [.own 5], none⟩, ⟨[1], [.own 1], none⟩, ⟨[23], [], none⟩, ⟨[22, 24], [], none⟩, ⟨[25], [], none⟩] hM (by kernel_rfl) ?_
          refine AW.op rfl (ARead.sem fun e' h' ha => opLoadBp hL rfl rfl ((ha _ rfl).trans rfl) rfl) rfl trivial ?_
          refine AW.op rfl (ARead.sem fun e' h' ha => opLoadBp hL rfl rfl ((ha _ rfl).trans rfl) rfl) rfl trivial ?_
          refine AW.op (eff := none) rfl (fun e' h' ha => opCallR [some (.cons (.cons (.sl (.sl (.int .i64))) (.cons (.sl (.int .i64)) .nil)) (.cons (.sl (.cons (.sl (.sl (.int .i64))) (.cons (.sl (.int .i64)) .nil))) .nil))] rfl (.cons (.agg rfl (.cons (.cons (.one .sl) (.cons (.one .sl) .nil)) (.cons (.one .sl) .nil))) .nil) (c_laws_toDesk d (by clear ha; exact szDk_small (n := 1048576) (by omega) (by omega) (by omega)) _)) rfl trivial ?_
          refine AW.opP rfl (fun e' h' ha => opCallR [some (.cons (.cons (.sl (.sl (.int .i64))) (.cons (.sl (.int .i64)) .nil)) (.cons (.sl (.cons (.sl (.sl (.int .i64))) (.cons (.sl (.int .i64)) .nil))) .nil)), some (.cons (.cons (.sl (.sl (.int .i64))) (.cons (.sl (.int .i64)) .nil)) (.cons (.sl (.cons (.sl (.sl (.int .i64))) (.cons (.sl (.int .i64)) .nil))) .nil))] rfl (.cons (.agg rfl (.cons (.cons (.one .sl) (.cons (.one .sl) .nil)) (.cons (.one .sl) .nil))) (.cons .v .nil)) (c_laws_eqDesk d _ _)) rfl (fun c7 => ?_) (fun c7 => ?_)
          · skip
            refine AW.op rfl (ARead.sem fun e' h' ha => opUn rfl) rfl trivial ?_
            refine AW.end ?_
            refine W.condF rfl ?_
            refine W.skip ?_
            refine W.seq ?_
            refine W.region ?_
            refine W.op rfl (opAssign rfl).sem rfl ?_
            refine W.end ?_
            refine W.ret (endsR rfl (.cons .v .nil) ?_ (fun _ => rfl))
            refine one_v ?_
            · skip
              first | rfl | contradiction | simp_all
          · skip
            refine AW.op rfl (ARead.sem fun e' h' ha => opUn rfl) rfl trivial ?_
            refine AW.end ?_
            refine W.condT rfl ?_
            refine W.seq ?_
            refine W.region ?_
            refine W.op rfl (opAssign rfl).sem rfl ?_
            refine W.end ?_
            refine W.ret (endsR rfl (.cons .v .nil) ?_ (fun _ => rfl))
            refine one_v ?_
            · skip
              first | rfl | contradiction | simp_all
    · skip
      refine W.op rfl (opAssign rfl).sem rfl ?_
      refine W.end ?_
      refine W.seq ?_
      refine W.region ?_
      refine W.op rfl (opLoadBp hL rfl rfl rfl rfl).sem rfl ?_
      refine W.op rfl (opCallR [some (.cons (.cons (.sl (.sl (.int .i64))) (.cons (.sl (.int .i64)) .nil)) (.cons (.sl (.cons (.sl (.sl (.int .i64))) (.cons (.sl (.int .i64)) .nil))) .nil))] rfl (.cons (.agg rfl (.cons (.cons (.one .sl) (.cons (.one .sl) .nil)) (.cons (.one .sl) .nil))) .nil) (c_laws_toDesk d ?_ _)) rfl ?_
      · exact szDk_small (n := 1048576) (by omega) (by omega) (by omega)
      refine W.op rfl (opAlloc hL rfl rfl rfl) rfl ?_
      refine W.op rfl (opStore hL rfl rfl rfl rfl (okBs_ok rfl) rfl rfl rfl) rfl ?_
      refine W.end ?_
      refine W.seq ?_
      refine W.region ?_
      refine W.op rfl (opLoadBp hL rfl rfl rfl rfl).sem rfl ?_
      refine W.opP rfl (opCallR [some (.cons (.cons (.sl (.sl (.int .i64))) (.cons (.sl (.int .i64)) .nil)) (.cons (.sl (.cons (.sl (.sl (.int .i64))) (.cons (.sl (.int .i64)) .nil))) .nil))] rfl (.cons (.agg rfl (.cons (.cons (.one .sl) (.cons (.one .sl) .nil)) (.cons (.one .sl) .nil))) .nil) (c_impl_DeskOk d _)) rfl (fun c8 => ?_) (fun c8 => ?_)
      · skip
        refine W.op rfl (opAssign rfl).sem rfl ?_
        refine W.end ?_
        refine W.seq ?_
        refine W.seq ?_
        refine W.region ?_
        refine W.op rfl (opMove rfl).sem rfl ?_
        refine W.op rfl (opMove rfl).sem rfl ?_
        refine W.opB rfl (opBin hL rfl).sem rfl (fun c9 => ?_) (fun c9 => ?_)
        · skip
          refine W.end ?_
          refine W.condT rfl ?_
          refine W.seq ?_
          refine W.region ?_
          refine W.op rfl (opAssign rfl).sem rfl ?_
          refine W.end ?_
          refine W.ret (endsR rfl (.cons .v .nil) ?_ (fun _ => rfl))
          refine one_v ?_
          · skip
            first | rfl | contradiction | simp_all
        · skip
          refine W.end ?_
          refine W.condF rfl ?_
          refine W.skip ?_
          refine W.seq ?_
          refine W.seq ?_
          refine W.any [⟨[5], [.own 5], none⟩, ⟨[1], [.own 1], none⟩, ⟨[23], [], none⟩, ⟨[22, 24], [], none⟩, ⟨[25], [], none⟩] hM (by kernel_rfl) ?_
          refine AW.op rfl (ARead.sem fun e' h' ha => opLoadBp hL rfl rfl ((ha _ rfl).trans rfl) rfl) rfl trivial ?_
          refine AW.op rfl (ARead.sem fun e' h' ha => opLoadBp hL rfl rfl ((ha _ rfl).trans rfl) rfl) rfl trivial ?_
          refine AW.op (eff := none) rfl (fun e' h' ha => opCallR [some (.cons (.cons (.sl (.sl (.int .i64))) (.cons (.sl (.int .i64)) .nil)) (.cons (.sl (.cons (.sl (.sl (.int .i64))) (.cons (.sl (.int .i64)) .nil))) .nil))] rfl (.cons (.agg rfl (.cons (.cons (.one .sl) (.cons (.one .sl) .nil)) (.cons (.one .sl) .nil))) .nil) (c_laws_toDesk d (by clear ha; exact szDk_small (n := 1048576) (by omega) (by omega) (by omega)) _)) rfl trivial ?_
          refine AW.opP rfl (fun e' h' ha => opCallR [some (.cons (.cons (.sl (.sl (.int .i64))) (.cons (.sl (.int .i64)) .nil)) (.cons (.sl (.cons (.sl (.sl (.int .i64))) (.cons (.sl (.int .i64)) .nil))) .nil)), some (.cons (.cons (.sl (.sl (.int .i64))) (.cons (.sl (.int .i64)) .nil)) (.cons (.sl (.cons (.sl (.sl (.int .i64))) (.cons (.sl (.int .i64)) .nil))) .nil))] rfl (.cons (.agg rfl (.cons (.cons (.one .sl) (.cons (.one .sl) .nil)) (.cons (.one .sl) .nil))) (.cons .v .nil)) (c_laws_eqDesk d _ _)) rfl (fun c10 => ?_) (fun c10 => ?_)
          · skip
            refine AW.op rfl (ARead.sem fun e' h' ha => opUn rfl) rfl trivial ?_
            refine AW.end ?_
            refine W.condF rfl ?_
            refine W.skip ?_
            refine W.seq ?_
            refine W.region ?_
            refine W.op rfl (opAssign rfl).sem rfl ?_
            refine W.end ?_
            refine W.ret (endsR rfl (.cons .v .nil) ?_ (fun _ => rfl))
            refine one_v ?_
            · skip
              first | rfl | contradiction | simp_all
          · skip
            refine AW.op rfl (ARead.sem fun e' h' ha => opUn rfl) rfl trivial ?_
            refine AW.end ?_
            refine W.condT rfl ?_
            refine W.seq ?_
            refine W.region ?_
            refine W.op rfl (opAssign rfl).sem rfl ?_
            refine W.end ?_
            refine W.ret (endsR rfl (.cons .v .nil) ?_ (fun _ => rfl))
            refine one_v ?_
            · skip
              first | rfl | contradiction | simp_all
      · skip
        refine W.op rfl (opAssign rfl).sem rfl ?_
        refine W.end ?_
        refine W.seq ?_
        refine W.seq ?_
        refine W.region ?_
        refine W.op rfl (opMove rfl).sem rfl ?_
        refine W.op rfl (opMove rfl).sem rfl ?_
        refine W.opB rfl (opBin hL rfl).sem rfl (fun c11 => ?_) (fun c11 => ?_)
        · skip
          refine W.end ?_
          refine W.condT rfl ?_
          refine W.seq ?_
          refine W.region ?_
          refine W.op rfl (opAssign rfl).sem rfl ?_
          refine W.end ?_
          refine W.ret (endsR rfl (.cons .v .nil) ?_ (fun _ => rfl))
          refine one_v ?_
          · skip
            first | rfl | contradiction | simp_all
        · skip
          refine W.end ?_
          refine W.condF rfl ?_
          refine W.skip ?_
          refine W.seq ?_
          refine W.seq ?_
          refine W.any [⟨[5], [.own 5], none⟩, ⟨[1], [.own 1], none⟩, ⟨[23], [], none⟩, ⟨[22, 24], [], none⟩, ⟨[25], [], none⟩] hM (by kernel_rfl) ?_
          refine AW.op rfl (ARead.sem fun e' h' ha => opLoadBp hL rfl rfl ((ha _ rfl).trans rfl) rfl) rfl trivial ?_
          refine AW.op rfl (ARead.sem fun e' h' ha => opLoadBp hL rfl rfl ((ha _ rfl).trans rfl) rfl) rfl trivial ?_
          refine AW.op (eff := none) rfl (fun e' h' ha => opCallR [some (.cons (.cons (.sl (.sl (.int .i64))) (.cons (.sl (.int .i64)) .nil)) (.cons (.sl (.cons (.sl (.sl (.int .i64))) (.cons (.sl (.int .i64)) .nil))) .nil))] rfl (.cons (.agg rfl (.cons (.cons (.one .sl) (.cons (.one .sl) .nil)) (.cons (.one .sl) .nil))) .nil) (c_laws_toDesk d (by clear ha; exact szDk_small (n := 1048576) (by omega) (by omega) (by omega)) _)) rfl trivial ?_
          refine AW.opP rfl (fun e' h' ha => opCallR [some (.cons (.cons (.sl (.sl (.int .i64))) (.cons (.sl (.int .i64)) .nil)) (.cons (.sl (.cons (.sl (.sl (.int .i64))) (.cons (.sl (.int .i64)) .nil))) .nil)), some (.cons (.cons (.sl (.sl (.int .i64))) (.cons (.sl (.int .i64)) .nil)) (.cons (.sl (.cons (.sl (.sl (.int .i64))) (.cons (.sl (.int .i64)) .nil))) .nil))] rfl (.cons (.agg rfl (.cons (.cons (.one .sl) (.cons (.one .sl) .nil)) (.cons (.one .sl) .nil))) (.cons .v .nil)) (c_laws_eqDesk d _ _)) rfl (fun c12 => ?_) (fun c12 => ?_)
          · skip
            refine AW.op rfl (ARead.sem fun e' h' ha => opUn rfl) rfl trivial ?_
            refine AW.end ?_
            refine W.condF rfl ?_
            refine W.skip ?_
            refine W.seq ?_
            refine W.region ?_
            refine W.op rfl (opAssign rfl).sem rfl ?_
            refine W.end ?_
            refine W.ret (endsR rfl (.cons .v .nil) ?_ (fun _ => rfl))
            refine one_v ?_
            · skip
              first | rfl | contradiction | simp_all
          · skip
            refine AW.op rfl (ARead.sem fun e' h' ha => opUn rfl) rfl trivial ?_
            refine AW.end ?_
            refine W.condT rfl ?_
            refine W.seq ?_
            refine W.region ?_
            refine W.op rfl (opAssign rfl).sem rfl ?_
            refine W.end ?_
            refine W.ret (endsR rfl (.cons .v .nil) ?_ (fun _ => rfl))
            refine one_v ?_
            · skip
              first | rfl | contradiction | simp_all
end Go.Vs

