/- The law BitsRing: its function's walk, the pure law, the row. Conditions: none. -/
import Derived.Test.YtjcabmhnekcbgaaRows
import Derived.WalkKit
import Derived.ProofKit
import Derived.OpenShut
import Derived.ShutString
import Derived.ChangeOld
import Derived.Below
import Derived.SizedLaws
import Derived.Carry
import Derived.Test.YtjcabmhnekcbgaaC8
set_option linter.unusedVariables false
set_option linter.unusedSimpArgs false
section
namespace Go.Proofs.Ytjcabmhnekcbgaa
open Go.Ab Go.RowKit 
set_option maxRecDepth 100000
set_option maxHeartbeats 40000000
noncomputable def d3_b1 (a0_0 : Int) (a0_1 : Bool) (a1_0 : Int) (a1_1 : Bool) (a2_0 : Int) (a2_1 : Int) (a2_2 : Int) (s255 : Int) : Option ((Int) ⊕ ((Bool) ⊕ (Unit))) :=
  if (cmpLit .lss s255 6) = true then
    Option.bind (α := (Unit) ⊕ (Bool)) (
      if (Inb s255 (Int.ofNat 6)) then
        if (cmpLit .eql s255 (Int.ofNat 0)) = true then
          (d11 1 a0_0 a0_1 a2_0 a2_1).bind fun x416 =>
          if (Inb s255 (Int.ofNat 6)) then
            if (cmpLit .eql s255 (Int.ofNat 0)) = true then
              (d12 a1_0 a1_1 a2_0).bind fun x417 =>
              (d12 a1_0 a1_1 a2_1).bind fun x418 =>
              (d11 1 a1_0 a1_1 x417 x418).bind fun x419 =>
              (d12 a1_0 a1_1 x416.2.2).bind fun x422 =>
              (d12 a1_0 a1_1 x419.2.2).bind fun x423 =>
              if (cmpLit .neq x422 x423) = true then
                some (.inr false)
              else
                if (Inb s255 (Int.ofNat 6)) then
                  if (cmpLit .eql s255 (Int.ofNat 0)) = true then
                    if (Inb s255 (Int.ofNat 6)) then
                      if (cmpLit .eql s255 (Int.ofNat 0)) = true then
                        (d11 1 a0_0 a0_1 a2_1 a2_0).bind fun x424 =>
                        if (cmpLit .neq x416.2.2 x424.2.2) = true then
                          some (.inr false)
                        else
                          (d13 a0_0 a0_1).bind fun x425 =>
                          if (Inb s255 (Int.ofNat 6)) then
                            if (cmpLit .eql s255 (Int.ofNat 0)) = true then
                              (d11 1 x425.1 x425.2.1 a2_0 a2_1).bind fun x426 =>
                              if (Inb s255 (Int.ofNat 6)) then
                                if (cmpLit .eql s255 (Int.ofNat 0)) = true then
                                  (d11 1 x425.1 x425.2.1 a2_1 a2_2).bind fun x427 =>
                                  if (Inb s255 (Int.ofNat 6)) then
                                    if (cmpLit .eql s255 (Int.ofNat 0)) = true then
                                      (d11 1 x425.1 x425.2.1 x426.2.2 a2_2).bind fun x428 =>
                                      if (Inb s255 (Int.ofNat 6)) then
                                        if (cmpLit .eql s255 (Int.ofNat 0)) = true then
                                          (d11 1 x425.1 x425.2.1 a2_0 x427.2.2).bind fun x429 =>
                                          if (cmpLit .neq x428.2.2 x429.2.2) = true then
                                            some (.inr false)
                                          else
                                            some (.inl ())
                                        else
                                          none
                                      else none
                                    else
                                      none
                                  else none
                                else
                                  none
                              else none
                            else
                              none
                          else none
                      else
                        none
                    else none
                  else
                    none
                else none
            else
              none
          else none
        else
          if (cmpLit .eql s255 (Int.ofNat 1)) = true then
            (d11 2 a0_0 a0_1 a2_0 a2_1).bind fun x430 =>
            if (Inb s255 (Int.ofNat 6)) then
              if (cmpLit .eql s255 (Int.ofNat 0)) = true then
                none
              else
                if (cmpLit .eql s255 (Int.ofNat 1)) = true then
                  (d12 a1_0 a1_1 a2_0).bind fun x431 =>
                  (d12 a1_0 a1_1 a2_1).bind fun x432 =>
                  (d11 2 a1_0 a1_1 x431 x432).bind fun x433 =>
                  (d12 a1_0 a1_1 x430.2.2).bind fun x436 =>
                  (d12 a1_0 a1_1 x433.2.2).bind fun x437 =>
                  if (cmpLit .neq x436 x437) = true then
                    some (.inr false)
                  else
                    if (Inb s255 (Int.ofNat 6)) then
                      if (cmpLit .eql s255 (Int.ofNat 0)) = true then
                        none
                      else
                        if (cmpLit .eql s255 (Int.ofNat 1)) = true then
                          some (.inl ())
                        else
                          none
                    else none
                else
                  none
            else none
          else
            if (cmpLit .eql s255 (Int.ofNat 2)) = true then
              (d11 3 a0_0 a0_1 a2_0 a2_1).bind fun x438 =>
              if (Inb s255 (Int.ofNat 6)) then
                if (cmpLit .eql s255 (Int.ofNat 0)) = true then
                  none
                else
                  if (cmpLit .eql s255 (Int.ofNat 1)) = true then
                    none
                  else
                    if (cmpLit .eql s255 (Int.ofNat 2)) = true then
                      (d12 a1_0 a1_1 a2_0).bind fun x439 =>
                      (d12 a1_0 a1_1 a2_1).bind fun x440 =>
                      (d11 3 a1_0 a1_1 x439 x440).bind fun x441 =>
                      (d12 a1_0 a1_1 x438.2.2).bind fun x444 =>
                      (d12 a1_0 a1_1 x441.2.2).bind fun x445 =>
                      if (cmpLit .neq x444 x445) = true then
                        some (.inr false)
                      else
                        if (Inb s255 (Int.ofNat 6)) then
                          if (cmpLit .eql s255 (Int.ofNat 0)) = true then
                            none
                          else
                            if (cmpLit .eql s255 (Int.ofNat 1)) = true then
                              none
                            else
                              if (cmpLit .eql s255 (Int.ofNat 2)) = true then
                                if (Inb s255 (Int.ofNat 6)) then
                                  if (cmpLit .eql s255 (Int.ofNat 0)) = true then
                                    none
                                  else
                                    if (cmpLit .eql s255 (Int.ofNat 1)) = true then
                                      none
                                    else
                                      if (cmpLit .eql s255 (Int.ofNat 2)) = true then
                                        (d11 3 a0_0 a0_1 a2_1 a2_0).bind fun x446 =>
                                        if (cmpLit .neq x438.2.2 x446.2.2) = true then
                                          some (.inr false)
                                        else
                                          (d13 a0_0 a0_1).bind fun x447 =>
                                          if (Inb s255 (Int.ofNat 6)) then
                                            if (cmpLit .eql s255 (Int.ofNat 0)) = true then
                                              none
                                            else
                                              if (cmpLit .eql s255 (Int.ofNat 1)) = true then
                                                none
                                              else
                                                if (cmpLit .eql s255 (Int.ofNat 2)) = true then
                                                  (d11 3 x447.1 x447.2.1 a2_0 a2_1).bind fun x448 =>
                                                  if (Inb s255 (Int.ofNat 6)) then
                                                    if (cmpLit .eql s255 (Int.ofNat 0)) = true then
                                                      none
                                                    else
                                                      if (cmpLit .eql s255 (Int.ofNat 1)) = true then
                                                        none
                                                      else
                                                        if (cmpLit .eql s255 (Int.ofNat 2)) = true then
                                                          (d11 3 x447.1 x447.2.1 a2_1 a2_2).bind fun x449 =>
                                                          if (Inb s255 (Int.ofNat 6)) then
                                                            if (cmpLit .eql s255 (Int.ofNat 0)) = true then
                                                              none
                                                            else
                                                              if (cmpLit .eql s255 (Int.ofNat 1)) = true then
                                                                none
                                                              else
                                                                if (cmpLit .eql s255 (Int.ofNat 2)) = true then
                                                                  (d11 3 x447.1 x447.2.1 x448.2.2 a2_2).bind fun x450 =>
                                                                  if (Inb s255 (Int.ofNat 6)) then
                                                                    if (cmpLit .eql s255 (Int.ofNat 0)) = true then
                                                                      none
                                                                    else
                                                                      if (cmpLit .eql s255 (Int.ofNat 1)) = true then
                                                                        none
                                                                      else
                                                                        if (cmpLit .eql s255 (Int.ofNat 2)) = true then
                                                                          (d11 3 x447.1 x447.2.1 a2_0 x449.2.2).bind fun x451 =>
                                                                          if (cmpLit .neq x450.2.2 x451.2.2) = true then
                                                                            some (.inr false)
                                                                          else
                                                                            some (.inl ())
                                                                        else
                                                                          none
                                                                  else none
                                                                else
                                                                  none
                                                          else none
                                                        else
                                                          none
                                                  else none
                                                else
                                                  none
                                          else none
                                      else
                                        none
                                else none
                              else
                                none
                        else none
                    else
                      none
              else none
            else
              if (cmpLit .eql s255 (Int.ofNat 3)) = true then
                (d11 6 a0_0 a0_1 a2_0 a2_1).bind fun x452 =>
                if (Inb s255 (Int.ofNat 6)) then
                  if (cmpLit .eql s255 (Int.ofNat 0)) = true then
                    none
                  else
                    if (cmpLit .eql s255 (Int.ofNat 1)) = true then
                      none
                    else
                      if (cmpLit .eql s255 (Int.ofNat 2)) = true then
                        none
                      else
                        if (cmpLit .eql s255 (Int.ofNat 3)) = true then
                          (d12 a1_0 a1_1 a2_0).bind fun x453 =>
                          (d12 a1_0 a1_1 a2_1).bind fun x454 =>
                          (d11 6 a1_0 a1_1 x453 x454).bind fun x455 =>
                          (d12 a1_0 a1_1 x452.2.2).bind fun x458 =>
                          (d12 a1_0 a1_1 x455.2.2).bind fun x459 =>
                          if (cmpLit .neq x458 x459) = true then
                            some (.inr false)
                          else
                            if (Inb s255 (Int.ofNat 6)) then
                              if (cmpLit .eql s255 (Int.ofNat 0)) = true then
                                none
                              else
                                if (cmpLit .eql s255 (Int.ofNat 1)) = true then
                                  none
                                else
                                  if (cmpLit .eql s255 (Int.ofNat 2)) = true then
                                    none
                                  else
                                    if (cmpLit .eql s255 (Int.ofNat 3)) = true then
                                      if (Inb s255 (Int.ofNat 6)) then
                                        if (cmpLit .eql s255 (Int.ofNat 0)) = true then
                                          none
                                        else
                                          if (cmpLit .eql s255 (Int.ofNat 1)) = true then
                                            none
                                          else
                                            if (cmpLit .eql s255 (Int.ofNat 2)) = true then
                                              none
                                            else
                                              if (cmpLit .eql s255 (Int.ofNat 3)) = true then
                                                (d11 6 a0_0 a0_1 a2_1 a2_0).bind fun x460 =>
                                                if (cmpLit .neq x452.2.2 x460.2.2) = true then
                                                  some (.inr false)
                                                else
                                                  (d13 a0_0 a0_1).bind fun x461 =>
                                                  if (Inb s255 (Int.ofNat 6)) then
                                                    if (cmpLit .eql s255 (Int.ofNat 0)) = true then
                                                      none
                                                    else
                                                      if (cmpLit .eql s255 (Int.ofNat 1)) = true then
                                                        none
                                                      else
                                                        if (cmpLit .eql s255 (Int.ofNat 2)) = true then
                                                          none
                                                        else
                                                          if (cmpLit .eql s255 (Int.ofNat 3)) = true then
                                                            (d11 6 x461.1 x461.2.1 a2_0 a2_1).bind fun x462 =>
                                                            if (Inb s255 (Int.ofNat 6)) then
                                                              if (cmpLit .eql s255 (Int.ofNat 0)) = true then
                                                                none
                                                              else
                                                                if (cmpLit .eql s255 (Int.ofNat 1)) = true then
                                                                  none
                                                                else
                                                                  if (cmpLit .eql s255 (Int.ofNat 2)) = true then
                                                                    none
                                                                  else
                                                                    if (cmpLit .eql s255 (Int.ofNat 3)) = true then
                                                                      (d11 6 x461.1 x461.2.1 a2_1 a2_2).bind fun x463 =>
                                                                      if (Inb s255 (Int.ofNat 6)) then
                                                                        if (cmpLit .eql s255 (Int.ofNat 0)) = true then
                                                                          none
                                                                        else
                                                                          if (cmpLit .eql s255 (Int.ofNat 1)) = true then
                                                                            none
                                                                          else
                                                                            if (cmpLit .eql s255 (Int.ofNat 2)) = true then
                                                                              none
                                                                            else
                                                                              if (cmpLit .eql s255 (Int.ofNat 3)) = true then
                                                                                (d11 6 x461.1 x461.2.1 x462.2.2 a2_2).bind fun x464 =>
                                                                                if (Inb s255 (Int.ofNat 6)) then
                                                                                  if (cmpLit .eql s255 (Int.ofNat 0)) = true then
                                                                                    none
                                                                                  else
                                                                                    if (cmpLit .eql s255 (Int.ofNat 1)) = true then
                                                                                      none
                                                                                    else
                                                                                      if (cmpLit .eql s255 (Int.ofNat 2)) = true then
                                                                                        none
                                                                                      else
                                                                                        if (cmpLit .eql s255 (Int.ofNat 3)) = true then
                                                                                          (d11 6 x461.1 x461.2.1 a2_0 x463.2.2).bind fun x465 =>
                                                                                          if (cmpLit .neq x464.2.2 x465.2.2) = true then
                                                                                            some (.inr false)
                                                                                          else
                                                                                            some (.inl ())
                                                                                        else
                                                                                          none
                                                                                else none
                                                                              else
                                                                                none
                                                                      else none
                                                                    else
                                                                      none
                                                            else none
                                                          else
                                                            none
                                                  else none
                                              else
                                                none
                                      else none
                                    else
                                      none
                            else none
                        else
                          none
                else none
              else
                if (cmpLit .eql s255 (Int.ofNat 4)) = true then
                  (d11 7 a0_0 a0_1 a2_0 a2_1).bind fun x466 =>
                  if (Inb s255 (Int.ofNat 6)) then
                    if (cmpLit .eql s255 (Int.ofNat 0)) = true then
                      none
                    else
                      if (cmpLit .eql s255 (Int.ofNat 1)) = true then
                        none
                      else
                        if (cmpLit .eql s255 (Int.ofNat 2)) = true then
                          none
                        else
                          if (cmpLit .eql s255 (Int.ofNat 3)) = true then
                            none
                          else
                            if (cmpLit .eql s255 (Int.ofNat 4)) = true then
                              (d12 a1_0 a1_1 a2_0).bind fun x467 =>
                              (d12 a1_0 a1_1 a2_1).bind fun x468 =>
                              (d11 7 a1_0 a1_1 x467 x468).bind fun x469 =>
                              (d12 a1_0 a1_1 x466.2.2).bind fun x472 =>
                              (d12 a1_0 a1_1 x469.2.2).bind fun x473 =>
                              if (cmpLit .neq x472 x473) = true then
                                some (.inr false)
                              else
                                if (Inb s255 (Int.ofNat 6)) then
                                  if (cmpLit .eql s255 (Int.ofNat 0)) = true then
                                    none
                                  else
                                    if (cmpLit .eql s255 (Int.ofNat 1)) = true then
                                      none
                                    else
                                      if (cmpLit .eql s255 (Int.ofNat 2)) = true then
                                        none
                                      else
                                        if (cmpLit .eql s255 (Int.ofNat 3)) = true then
                                          none
                                        else
                                          if (cmpLit .eql s255 (Int.ofNat 4)) = true then
                                            if (Inb s255 (Int.ofNat 6)) then
                                              if (cmpLit .eql s255 (Int.ofNat 0)) = true then
                                                none
                                              else
                                                if (cmpLit .eql s255 (Int.ofNat 1)) = true then
                                                  none
                                                else
                                                  if (cmpLit .eql s255 (Int.ofNat 2)) = true then
                                                    none
                                                  else
                                                    if (cmpLit .eql s255 (Int.ofNat 3)) = true then
                                                      none
                                                    else
                                                      if (cmpLit .eql s255 (Int.ofNat 4)) = true then
                                                        (d11 7 a0_0 a0_1 a2_1 a2_0).bind fun x474 =>
                                                        if (cmpLit .neq x466.2.2 x474.2.2) = true then
                                                          some (.inr false)
                                                        else
                                                          (d13 a0_0 a0_1).bind fun x475 =>
                                                          if (Inb s255 (Int.ofNat 6)) then
                                                            if (cmpLit .eql s255 (Int.ofNat 0)) = true then
                                                              none
                                                            else
                                                              if (cmpLit .eql s255 (Int.ofNat 1)) = true then
                                                                none
                                                              else
                                                                if (cmpLit .eql s255 (Int.ofNat 2)) = true then
                                                                  none
                                                                else
                                                                  if (cmpLit .eql s255 (Int.ofNat 3)) = true then
                                                                    none
                                                                  else
                                                                    if (cmpLit .eql s255 (Int.ofNat 4)) = true then
                                                                      (d11 7 x475.1 x475.2.1 a2_0 a2_1).bind fun x476 =>
                                                                      if (Inb s255 (Int.ofNat 6)) then
                                                                        if (cmpLit .eql s255 (Int.ofNat 0)) = true then
                                                                          none
                                                                        else
                                                                          if (cmpLit .eql s255 (Int.ofNat 1)) = true then
                                                                            none
                                                                          else
                                                                            if (cmpLit .eql s255 (Int.ofNat 2)) = true then
                                                                              none
                                                                            else
                                                                              if (cmpLit .eql s255 (Int.ofNat 3)) = true then
                                                                                none
                                                                              else
                                                                                if (cmpLit .eql s255 (Int.ofNat 4)) = true then
                                                                                  (d11 7 x475.1 x475.2.1 a2_1 a2_2).bind fun x477 =>
                                                                                  if (Inb s255 (Int.ofNat 6)) then
                                                                                    if (cmpLit .eql s255 (Int.ofNat 0)) = true then
                                                                                      none
                                                                                    else
                                                                                      if (cmpLit .eql s255 (Int.ofNat 1)) = true then
                                                                                        none
                                                                                      else
                                                                                        if (cmpLit .eql s255 (Int.ofNat 2)) = true then
                                                                                          none
                                                                                        else
                                                                                          if (cmpLit .eql s255 (Int.ofNat 3)) = true then
                                                                                            none
                                                                                          else
                                                                                            if (cmpLit .eql s255 (Int.ofNat 4)) = true then
                                                                                              (d11 7 x475.1 x475.2.1 x476.2.2 a2_2).bind fun x478 =>
                                                                                              if (Inb s255 (Int.ofNat 6)) then
                                                                                                if (cmpLit .eql s255 (Int.ofNat 0)) = true then
                                                                                                  none
                                                                                                else
                                                                                                  if (cmpLit .eql s255 (Int.ofNat 1)) = true then
                                                                                                    none
                                                                                                  else
                                                                                                    if (cmpLit .eql s255 (Int.ofNat 2)) = true then
                                                                                                      none
                                                                                                    else
                                                                                                      if (cmpLit .eql s255 (Int.ofNat 3)) = true then
                                                                                                        none
                                                                                                      else
                                                                                                        if (cmpLit .eql s255 (Int.ofNat 4)) = true then
                                                                                                          (d11 7 x475.1 x475.2.1 a2_0 x477.2.2).bind fun x479 =>
                                                                                                          if (cmpLit .neq x478.2.2 x479.2.2) = true then
                                                                                                            some (.inr false)
                                                                                                          else
                                                                                                            some (.inl ())
                                                                                                        else
                                                                                                          none
                                                                                              else none
                                                                                            else
                                                                                              none
                                                                                  else none
                                                                                else
                                                                                  none
                                                                      else none
                                                                    else
                                                                      none
                                                          else none
                                                      else
                                                        none
                                            else none
                                          else
                                            none
                                else none
                            else
                              none
                  else none
                else
                  (d11 8 a0_0 a0_1 a2_0 a2_1).bind fun x480 =>
                  if (Inb s255 (Int.ofNat 6)) then
                    if (cmpLit .eql s255 (Int.ofNat 0)) = true then
                      none
                    else
                      if (cmpLit .eql s255 (Int.ofNat 1)) = true then
                        none
                      else
                        if (cmpLit .eql s255 (Int.ofNat 2)) = true then
                          none
                        else
                          if (cmpLit .eql s255 (Int.ofNat 3)) = true then
                            none
                          else
                            if (cmpLit .eql s255 (Int.ofNat 4)) = true then
                              none
                            else
                              (d12 a1_0 a1_1 a2_0).bind fun x481 =>
                              (d12 a1_0 a1_1 a2_1).bind fun x482 =>
                              (d11 8 a1_0 a1_1 x481 x482).bind fun x483 =>
                              (d12 a1_0 a1_1 x480.2.2).bind fun x486 =>
                              (d12 a1_0 a1_1 x483.2.2).bind fun x487 =>
                              if (cmpLit .neq x486 x487) = true then
                                some (.inr false)
                              else
                                if (Inb s255 (Int.ofNat 6)) then
                                  if (cmpLit .eql s255 (Int.ofNat 0)) = true then
                                    none
                                  else
                                    if (cmpLit .eql s255 (Int.ofNat 1)) = true then
                                      none
                                    else
                                      if (cmpLit .eql s255 (Int.ofNat 2)) = true then
                                        none
                                      else
                                        if (cmpLit .eql s255 (Int.ofNat 3)) = true then
                                          none
                                        else
                                          if (cmpLit .eql s255 (Int.ofNat 4)) = true then
                                            none
                                          else
                                            if (Inb s255 (Int.ofNat 6)) then
                                              if (cmpLit .eql s255 (Int.ofNat 0)) = true then
                                                none
                                              else
                                                if (cmpLit .eql s255 (Int.ofNat 1)) = true then
                                                  none
                                                else
                                                  if (cmpLit .eql s255 (Int.ofNat 2)) = true then
                                                    none
                                                  else
                                                    if (cmpLit .eql s255 (Int.ofNat 3)) = true then
                                                      none
                                                    else
                                                      if (cmpLit .eql s255 (Int.ofNat 4)) = true then
                                                        none
                                                      else
                                                        (d11 8 a0_0 a0_1 a2_1 a2_0).bind fun x488 =>
                                                        if (cmpLit .neq x480.2.2 x488.2.2) = true then
                                                          some (.inr false)
                                                        else
                                                          (d13 a0_0 a0_1).bind fun x489 =>
                                                          if (Inb s255 (Int.ofNat 6)) then
                                                            if (cmpLit .eql s255 (Int.ofNat 0)) = true then
                                                              none
                                                            else
                                                              if (cmpLit .eql s255 (Int.ofNat 1)) = true then
                                                                none
                                                              else
                                                                if (cmpLit .eql s255 (Int.ofNat 2)) = true then
                                                                  none
                                                                else
                                                                  if (cmpLit .eql s255 (Int.ofNat 3)) = true then
                                                                    none
                                                                  else
                                                                    if (cmpLit .eql s255 (Int.ofNat 4)) = true then
                                                                      none
                                                                    else
                                                                      (d11 8 x489.1 x489.2.1 a2_0 a2_1).bind fun x490 =>
                                                                      if (Inb s255 (Int.ofNat 6)) then
                                                                        if (cmpLit .eql s255 (Int.ofNat 0)) = true then
                                                                          none
                                                                        else
                                                                          if (cmpLit .eql s255 (Int.ofNat 1)) = true then
                                                                            none
                                                                          else
                                                                            if (cmpLit .eql s255 (Int.ofNat 2)) = true then
                                                                              none
                                                                            else
                                                                              if (cmpLit .eql s255 (Int.ofNat 3)) = true then
                                                                                none
                                                                              else
                                                                                if (cmpLit .eql s255 (Int.ofNat 4)) = true then
                                                                                  none
                                                                                else
                                                                                  (d11 8 x489.1 x489.2.1 a2_1 a2_2).bind fun x491 =>
                                                                                  if (Inb s255 (Int.ofNat 6)) then
                                                                                    if (cmpLit .eql s255 (Int.ofNat 0)) = true then
                                                                                      none
                                                                                    else
                                                                                      if (cmpLit .eql s255 (Int.ofNat 1)) = true then
                                                                                        none
                                                                                      else
                                                                                        if (cmpLit .eql s255 (Int.ofNat 2)) = true then
                                                                                          none
                                                                                        else
                                                                                          if (cmpLit .eql s255 (Int.ofNat 3)) = true then
                                                                                            none
                                                                                          else
                                                                                            if (cmpLit .eql s255 (Int.ofNat 4)) = true then
                                                                                              none
                                                                                            else
                                                                                              (d11 8 x489.1 x489.2.1 x490.2.2 a2_2).bind fun x492 =>
                                                                                              if (Inb s255 (Int.ofNat 6)) then
                                                                                                if (cmpLit .eql s255 (Int.ofNat 0)) = true then
                                                                                                  none
                                                                                                else
                                                                                                  if (cmpLit .eql s255 (Int.ofNat 1)) = true then
                                                                                                    none
                                                                                                  else
                                                                                                    if (cmpLit .eql s255 (Int.ofNat 2)) = true then
                                                                                                      none
                                                                                                    else
                                                                                                      if (cmpLit .eql s255 (Int.ofNat 3)) = true then
                                                                                                        none
                                                                                                      else
                                                                                                        if (cmpLit .eql s255 (Int.ofNat 4)) = true then
                                                                                                          none
                                                                                                        else
                                                                                                          (d11 8 x489.1 x489.2.1 a2_0 x491.2.2).bind fun x493 =>
                                                                                                          if (cmpLit .neq x492.2.2 x493.2.2) = true then
                                                                                                            some (.inr false)
                                                                                                          else
                                                                                                            some (.inl ())
                                                                                              else none
                                                                                  else none
                                                                      else none
                                                          else none
                                            else none
                                else none
                  else none
      else none) fun y415 =>
    match y415 with
    | .inl p494 =>
      some (.inl (arReal .add .i64 s255 1))
    | .inr y415r0 =>
      some (.inr (.inl y415r0))
  else
    some (.inr (.inr ()))
noncomputable def d3 (a0_0 : Int) (a0_1 : Bool) (a1_0 : Int) (a1_1 : Bool) (a2_0 : Int) (a2_1 : Int) (a2_2 : Int) : Option (Bool) :=
  (d9).bind fun x1 =>
  Option.bind (α := Bool) (
    if (notB' x1) = true then
      some true
    else
      (d10 a0_0 a0_1).bind fun x9 =>
      if (cmpLit .neq x9 0) = true then
        some true
      else
        (d10 a1_0 a1_1).bind fun x10 =>
        if (cmpLit .neq x10 0) = true then
          some true
        else
          some (cmpLit .gtr a1_0 a0_0)) fun y8 =>
  if y8 = true then
    some x1
  else
    Option.bind (α := (Unit) ⊕ (Bool)) (
      (iter (d3_b1 a0_0 a0_1 a1_0 a1_1 a2_0 a2_1 a2_2) 0).bind fun y336 =>
      match y336 with
      | .inl p496 =>
        some (.inr p496)
      | .inr y336r0 =>
        some (.inl ())) fun y174 =>
    match y174 with
    | .inl p498 =>
      (d11 1 a0_0 a0_1 a2_0 a2_1).bind fun x499 =>
      (d14 2 x499.1 x499.2.1 x499.2.2 a0_0 a0_1 a2_1).bind fun x500 =>
      if (cmpLit .eql x500.2.2.2 0) = true then
        (d12 a0_0 a0_1 a2_0).bind fun x503 =>
        (d12 x499.1 x499.2.1 x503).bind fun x504 =>
        some (cmpLit .eql x500.2.2.1 x504)
      else
        some false
    | .inr y174r0 =>
      some y174r0
noncomputable def w3_c : Code := (Try.f3.body).getD .skip
theorem w3_h : Try.f3.body = some w3_c := by kernel_rfl
theorem w3 (a0_0 : Int) (a0_1 : Bool) (a1_0 : Int) (a1_1 : Bool) (a2_0 : Int) (a2_1 : Int) (a2_2 : Int) (r : Bool) (h : d3 a0_0 a0_1 a1_0 a1_1 a2_0 a2_1 a2_2 = some r) : Ab.Fn Try.prog TT 3 [.agg [.i .i64 a0_0, .b a0_1], .agg [.i .i64 a1_0, .b a1_1], .agg [.i .i64 a2_0, .i .i64 a2_1, .i .i64 a2_2]] (.b r) [] := by
  refine fn_pure tok (fun r => match r with | 8 => [[],[0],[0,1],[],[],[4],[],[6],[0,1,2,3,4,5,6,7],[0,1,2,3,4,5,6,7,8],[0,1,2,3,4,5,6,7,8,9],[0,1,2,3,4,5,6,7,8,9],[],[0,1,2,3,4,5,6,7,8,9,10,12],[0,1,2,3,4,5,6,7,8,9,10,11,12,13]] | 9 => [[],[0],[0,1],[],[],[],[5],[4,5,6],[],[],[9],[4,5,6,7,8,9,10],[0,1,2,3,4,5,6,7,8,9,10,11],[0,1,2,3,4,5,6,7,8,9,10,11,12],[0,1,2,3,4,5,6,7,8,9,10,11,12,13],[0,1,2,3,4,5,6,7,8,9,10,11,12,13],[],[0,1,2,3,4,5,6,7,8,9,10,11,12,13,14,16],[0,1,2,3,4,5,6,7,8,9,10,11,12,13,14,15,16,17]] | 10 => [[],[],[0,1],[],[],[0,1,2,3,4],[0,1,2,3,4,5]] | 13 => [[],[0],[0,1],[],[],[4],[],[6],[0,1,2,3,4,5,6,7],[0,1,2,3,4,5,6,7,8],[0,1,2,3,4,5,6,7,8,9],[0,1,2,3,4,5,6,7,8,9],[],[0,1,2,3,4,5,6,7,8,9,10,12],[0,1,2,3,4,5,6,7,8,9,10,11,12,13]] | 17 => [[],[0],[0,1],[],[],[4],[],[6],[0,1,2,3,4,5,6,7],[0,1,2,3,4,5,6,7,8],[0,1,2,3,4,5,6,7,8,9],[0,1,2,3,4,5,6,7,8,9],[],[0,1,2,3,4,5,6,7,8,9,10,12],[0,1,2,3,4,5,6,7,8,9,10,11,12,13]] | 18 => [[],[0],[0,1],[],[],[4],[],[6],[0,1,2,3,4,5,6,7],[0,1,2,3,4,5,6,7,8],[0,1,2,3,4,5,6,7,8,9],[0,1,2,3,4,5,6,7,8,9],[],[0,1,2,3,4,5,6,7,8,9,10,12],[0,1,2,3,4,5,6,7,8,9,10,11,12,13]] | 19 => [[],[0],[0,1],[],[],[],[5],[0,1,2,3,4,5,6],[0,1,2,3,4,5,6,7],[0,1,2,3,4,5,6,7,8],[0,1,2,3,4,5,6,7,8],[],[0,1,2,3,4,5,6,7,8,9,11],[0,1,2,3,4,5,6,7,8,9,10,11,12]] | 20 => [[],[0],[0,1],[],[],[4],[],[0,1,2,3,4,5,6],[0,1,2,3,4,5,6,7],[0,1,2,3,4,5,6,7,8],[0,1,2,3,4,5,6,7,8],[],[0,1,2,3,4,5,6,7,8,9,11],[0,1,2,3,4,5,6,7,8,9,10,11,12]] | 25 => [[],[0],[0,1],[0,1,2],[0,1,2],[0,1,2],[0,1,2],[0,1,2,6],[0,1,2,5,6,7],[0,1,2,4,5,6,7,8],[0,1,2,3,4,5,6,7,8,9],[0,1,2,3,4,5,6,7,8,9,10],[0,1,2,3,4,5,6,7,8,9,10,11]] | _ => []) Try.func3 (by kernel_rfl) w3_h (by kernel_rfl) ?_
  intro ar un cv mn mx pl mi cmp nt beq an scmp cat slen sbyte ssub ofB toB len gi gb gs gl sub put app ovl rep ne0 ge0 inb bnd room sroom need br call loop cut nl E R K hK
  have D := E.D
  clear E
  unfold d3 at h
  cbv
  refine R.callD h (fun x1 hx1 h2 => ?_)
  clear h; have h := h2; clear h2
  refine R.call' (w9 _ hx1) (by (first | rfl | (simp only [D.har, D.hcmp, D.hinb, D.hnt]; done) | (simp only [D.har, D.hcmp, D.hinb, D.hnt]; rfl))) ?_
  clear hx1; cbv
  refine R.cut' (by kernel_rfl) (by kernel_rfl) ?_
  cbv
  refine R.cutB (fun p => p) (fun _ _ e => e) h [] (fun p11 => [(50, .b p11)]) (fun p11 => []) (by kernel_rfl) (by kernel_rfl) (fun y8 hy hFy8 L hLy8 => ?_) (fun p11 h2 => ?_)
  · clear h; have h := hy; clear hy; cbv
    refine R.brD h (by (first | rfl | (simp only [D.har, D.hcmp, D.hinb, D.hnt]; done) | (simp only [D.har, D.hcmp, D.hinb, D.hnt]; rfl))) ?_ ?_ <;> clear h <;> intro h <;> cbv
    · obtain ⟨s', e, hi⟩ := jn_some (fun p => p) h
      refine hLy8 s' _ _ hi ⟨rfl, ?_, ?_, rfl, rfl⟩ <;> cbv <;> (try (subst e; simp only [D.har, D.hcmp, D.hinb, D.hnt, and_self, and_true, true_and] <;> (repeat' apply And.intro) <;> rfl))
    · refine R.callD h (fun x9 hx9 h2 => ?_)
      clear h; have h := h2; clear h2
      refine R.call' (w10 _ _ _ hx9) (by (first | rfl | (simp only [D.har, D.hcmp, D.hinb, D.hnt]; done) | (simp only [D.har, D.hcmp, D.hinb, D.hnt]; rfl))) ?_
      clear hx9; cbv
      refine R.brD h (by (first | rfl | (simp only [D.har, D.hcmp, D.hinb, D.hnt]; done) | (simp only [D.har, D.hcmp, D.hinb, D.hnt]; rfl))) ?_ ?_ <;> clear h <;> intro h <;> cbv
      · obtain ⟨s', e, hi⟩ := jn_some (fun p => p) h
        refine hLy8 s' _ _ hi ⟨rfl, ?_, ?_, rfl, rfl⟩ <;> cbv <;> (try (subst e; simp only [D.har, D.hcmp, D.hinb, D.hnt, and_self, and_true, true_and] <;> (repeat' apply And.intro) <;> rfl))
      · refine R.callD h (fun x10 hx10 h2 => ?_)
        clear h; have h := h2; clear h2
        refine R.call' (w10 _ _ _ hx10) (by (first | rfl | (simp only [D.har, D.hcmp, D.hinb, D.hnt]; done) | (simp only [D.har, D.hcmp, D.hinb, D.hnt]; rfl))) ?_
        clear hx10; cbv
        refine R.brD h (by (first | rfl | (simp only [D.har, D.hcmp, D.hinb, D.hnt]; done) | (simp only [D.har, D.hcmp, D.hinb, D.hnt]; rfl))) ?_ ?_ <;> clear h <;> intro h <;> cbv
        · obtain ⟨s', e, hi⟩ := jn_some (fun p => p) h
          refine hLy8 s' _ _ hi ⟨rfl, ?_, ?_, rfl, rfl⟩ <;> cbv <;> (try (subst e; simp only [D.har, D.hcmp, D.hinb, D.hnt, and_self, and_true, true_and] <;> (repeat' apply And.intro) <;> rfl))
        · obtain ⟨s', e, hi⟩ := jn_some (fun p => p) h
          refine hLy8 s' _ _ hi ⟨rfl, ?_, ?_, rfl, rfl⟩ <;> cbv <;> (try (subst e; simp only [D.har, D.hcmp, D.hinb, D.hnt, and_self, and_true, true_and] <;> (repeat' apply And.intro) <;> rfl))
  · as_aux_lemma =>
    clear h; have h := h2; clear h2; try dsimp only at h
    cbv
    refine R.brD h (by (first | rfl | (simp only [D.har, D.hcmp, D.hinb, D.hnt]; done) | (simp only [D.har, D.hcmp, D.hinb, D.hnt]; rfl))) ?_ ?_ <;> clear h <;> intro h <;> cbv
    · have e := ret_some h; clear h
      refine hK _ _ ?_
      cbv
      try (subst e; simp only [D.har, D.hcmp, D.hinb, D.hnt, and_self, and_true, true_and] <;> (repeat' apply And.intro) <;> rfl)
    · as_aux_lemma =>
      refine R.cutB Sum.inl (fun _ _ e => Sum.inl.inj e) h [] (fun p498 => []) (fun p498 => []) (by kernel_rfl) (by kernel_rfl) (fun y174 hy hFy174 L hLy174 => ?_) (fun p498 h2 => ?_)
      · as_aux_lemma =>
        clear h; have h := hy; clear hy; cbv
        refine R.loopD h (fun s0 y336 e0 hi hFs255 => ?_)
        clear h
        refine R.loopI hi [] (fun s255 => [(9, .i .i64 s255)]) (fun s255 => []) ⟨rfl, ?_, ?_, rfl, rfl⟩ (by kernel_rfl) ?_
        · cbv; try (subst e0; simp only [D.har, D.hcmp, D.hinb, D.hnt, and_self, and_true, true_and] <;> (repeat' apply And.intro) <;> rfl)
        · cbv; try (subst e0; simp only [D.har, D.hcmp, D.hinb, D.hnt, and_self, and_true, true_and] <;> (repeat' apply And.intro) <;> rfl)
        clear hi e0
        intro s255 m y' hy hins255 houts255 L hLs255
        have h := hy; clear hy; unfold d3_b1 at h
        cbv
        refine R.cut' (by kernel_rfl) (by kernel_rfl) ?_
        cbv
        refine R.brD h (by (first | rfl | (simp only [D.har, D.hcmp, D.hinb, D.hnt]; done) | (simp only [D.har, D.hcmp, D.hinb, D.hnt]; rfl))) ?_ ?_ <;> clear h <;> intro h <;> cbv
        · as_aux_lemma =>
          refine R.cutB Sum.inl (fun _ _ e => Sum.inl.inj e) h [] (fun p494 => []) (fun p494 => []) (by kernel_rfl) (by kernel_rfl) (fun y415 hy hFy415 L hLy415 => ?_) (fun p494 h2 => ?_)
          · as_aux_lemma =>
            clear h; have h := hy; clear hy; cbv
            refine R.needD h (by (first | rfl | (simp only [D.har, D.hcmp, D.hinb, D.hnt]; done) | (simp only [D.har, D.hcmp, D.hinb, D.hnt]; rfl))) ?_
            clear h; intro h; cbv
            refine R.brD h (by (first | rfl | (simp only [D.har, D.hcmp, D.hinb, D.hnt]; done) | (simp only [D.har, D.hcmp, D.hinb, D.hnt]; rfl))) ?_ ?_ <;> clear h <;> intro h <;> cbv
            · as_aux_lemma =>
              refine R.callD h (fun x416 hx416 h2 => ?_)
              clear h; have h := h2; clear h2
              refine R.call' (w11 _ _ _ _ _ _ hx416) (by (first | rfl | (simp only [D.har, D.hcmp, D.hinb, D.hnt]; done) | (simp only [D.har, D.hcmp, D.hinb, D.hnt]; rfl))) ?_
              clear hx416; cbv
              refine R.needD h (by (first | rfl | (simp only [D.har, D.hcmp, D.hinb, D.hnt]; done) | (simp only [D.har, D.hcmp, D.hinb, D.hnt]; rfl))) ?_
              clear h; intro h; cbv
              refine R.brD h (by (first | rfl | (simp only [D.har, D.hcmp, D.hinb, D.hnt]; done) | (simp only [D.har, D.hcmp, D.hinb, D.hnt]; rfl))) ?_ ?_ <;> clear h <;> intro h <;> cbv
              · as_aux_lemma =>
                refine R.callD h (fun x417 hx417 h2 => ?_)
                clear h; have h := h2; clear h2
                refine R.call' (w12 _ _ _ _ hx417) (by (first | rfl | (simp only [D.har, D.hcmp, D.hinb, D.hnt]; done) | (simp only [D.har, D.hcmp, D.hinb, D.hnt]; rfl))) ?_
                clear hx417; cbv
                refine R.callD h (fun x418 hx418 h2 => ?_)
                clear h; have h := h2; clear h2
                refine R.call' (w12 _ _ _ _ hx418) (by (first | rfl | (simp only [D.har, D.hcmp, D.hinb, D.hnt]; done) | (simp only [D.har, D.hcmp, D.hinb, D.hnt]; rfl))) ?_
                clear hx418; cbv
                refine R.callD h (fun x419 hx419 h2 => ?_)
                clear h; have h := h2; clear h2
                refine R.call' (w11 _ _ _ _ _ _ hx419) (by (first | rfl | (simp only [D.har, D.hcmp, D.hinb, D.hnt]; done) | (simp only [D.har, D.hcmp, D.hinb, D.hnt]; rfl))) ?_
                clear hx419; cbv
                refine R.cut' (by kernel_rfl) (by kernel_rfl) ?_
                cbv
                refine R.callD h (fun x422 hx422 h2 => ?_)
                clear h; have h := h2; clear h2
                refine R.call' (w12 _ _ _ _ hx422) (by (first | rfl | (simp only [D.har, D.hcmp, D.hinb, D.hnt]; done) | (simp only [D.har, D.hcmp, D.hinb, D.hnt]; rfl))) ?_
                clear hx422; cbv
                refine R.callD h (fun x423 hx423 h2 => ?_)
                clear h; have h := h2; clear h2
                refine R.call' (w12 _ _ _ _ hx423) (by (first | rfl | (simp only [D.har, D.hcmp, D.hinb, D.hnt]; done) | (simp only [D.har, D.hcmp, D.hinb, D.hnt]; rfl))) ?_
                clear hx423; cbv
                refine R.brD h (by (first | rfl | (simp only [D.har, D.hcmp, D.hinb, D.hnt]; done) | (simp only [D.har, D.hcmp, D.hinb, D.hnt]; rfl))) ?_ ?_ <;> clear h <;> intro h <;> cbv
                · have e := ret_some h; clear h
                  have h := hFy415; rw [e] at h; clear e; try dsimp only at h
                  cbv
                  have e := inr_some h houts255; clear h
                  have h := hFs255; rw [e] at h; clear e; try dsimp only at h
                  cbv
                  have e := ret_some h; clear h
                  have h := hFy174; rw [e] at h; clear e; try dsimp only at h
                  cbv
                  have e := ret_some h; clear h
                  refine hK _ _ ?_
                  cbv
                  try (subst e; simp only [D.har, D.hcmp, D.hinb, D.hnt, and_self, and_true, true_and] <;> (repeat' apply And.intro) <;> rfl)
                · as_aux_lemma =>
                  refine R.cut' (by kernel_rfl) (by kernel_rfl) ?_
                  cbv
                  refine R.needD h (by (first | rfl | (simp only [D.har, D.hcmp, D.hinb, D.hnt]; done) | (simp only [D.har, D.hcmp, D.hinb, D.hnt]; rfl))) ?_
                  clear h; intro h; cbv
                  refine R.brD h (by (first | rfl | (simp only [D.har, D.hcmp, D.hinb, D.hnt]; done) | (simp only [D.har, D.hcmp, D.hinb, D.hnt]; rfl))) ?_ ?_ <;> clear h <;> intro h <;> cbv
                  · as_aux_lemma =>
                    refine R.needD h (by (first | rfl | (simp only [D.har, D.hcmp, D.hinb, D.hnt]; done) | (simp only [D.har, D.hcmp, D.hinb, D.hnt]; rfl))) ?_
                    clear h; intro h; cbv
                    refine R.brD h (by (first | rfl | (simp only [D.har, D.hcmp, D.hinb, D.hnt]; done) | (simp only [D.har, D.hcmp, D.hinb, D.hnt]; rfl))) ?_ ?_ <;> clear h <;> intro h <;> cbv
                    · as_aux_lemma =>
                      refine R.callD h (fun x424 hx424 h2 => ?_)
                      clear h; have h := h2; clear h2
                      refine R.call' (w11 _ _ _ _ _ _ hx424) (by (first | rfl | (simp only [D.har, D.hcmp, D.hinb, D.hnt]; done) | (simp only [D.har, D.hcmp, D.hinb, D.hnt]; rfl))) ?_
                      clear hx424; cbv
                      refine R.cut' (by kernel_rfl) (by kernel_rfl) ?_
                      cbv
                      refine R.brD h (by (first | rfl | (simp only [D.har, D.hcmp, D.hinb, D.hnt]; done) | (simp only [D.har, D.hcmp, D.hinb, D.hnt]; rfl))) ?_ ?_ <;> clear h <;> intro h <;> cbv
                      · have e := ret_some h; clear h
                        have h := hFy415; rw [e] at h; clear e; try dsimp only at h
                        cbv
                        have e := inr_some h houts255; clear h
                        have h := hFs255; rw [e] at h; clear e; try dsimp only at h
                        cbv
                        have e := ret_some h; clear h
                        have h := hFy174; rw [e] at h; clear e; try dsimp only at h
                        cbv
                        have e := ret_some h; clear h
                        refine hK _ _ ?_
                        cbv
                        try (subst e; simp only [D.har, D.hcmp, D.hinb, D.hnt, and_self, and_true, true_and] <;> (repeat' apply And.intro) <;> rfl)
                      · as_aux_lemma =>
                        refine R.callD h (fun x425 hx425 h2 => ?_)
                        clear h; have h := h2; clear h2
                        refine R.call' (w13 _ _ _ hx425) (by (first | rfl | (simp only [D.har, D.hcmp, D.hinb, D.hnt]; done) | (simp only [D.har, D.hcmp, D.hinb, D.hnt]; rfl))) ?_
                        clear hx425; cbv
                        refine R.needD h (by (first | rfl | (simp only [D.har, D.hcmp, D.hinb, D.hnt]; done) | (simp only [D.har, D.hcmp, D.hinb, D.hnt]; rfl))) ?_
                        clear h; intro h; cbv
                        refine R.brD h (by (first | rfl | (simp only [D.har, D.hcmp, D.hinb, D.hnt]; done) | (simp only [D.har, D.hcmp, D.hinb, D.hnt]; rfl))) ?_ ?_ <;> clear h <;> intro h <;> cbv
                        · refine R.callD h (fun x426 hx426 h2 => ?_)
                          clear h; have h := h2; clear h2
                          refine R.call' (w11 _ _ _ _ _ _ hx426) (by (first | rfl | (simp only [D.har, D.hcmp, D.hinb, D.hnt]; done) | (simp only [D.har, D.hcmp, D.hinb, D.hnt]; rfl))) ?_
                          clear hx426; cbv
                          refine R.needD h (by (first | rfl | (simp only [D.har, D.hcmp, D.hinb, D.hnt]; done) | (simp only [D.har, D.hcmp, D.hinb, D.hnt]; rfl))) ?_
                          clear h; intro h; cbv
                          refine R.brD h (by (first | rfl | (simp only [D.har, D.hcmp, D.hinb, D.hnt]; done) | (simp only [D.har, D.hcmp, D.hinb, D.hnt]; rfl))) ?_ ?_ <;> clear h <;> intro h <;> cbv
                          · refine R.callD h (fun x427 hx427 h2 => ?_)
                            clear h; have h := h2; clear h2
                            refine R.call' (w11 _ _ _ _ _ _ hx427) (by (first | rfl | (simp only [D.har, D.hcmp, D.hinb, D.hnt]; done) | (simp only [D.har, D.hcmp, D.hinb, D.hnt]; rfl))) ?_
                            clear hx427; cbv
                            refine R.needD h (by (first | rfl | (simp only [D.har, D.hcmp, D.hinb, D.hnt]; done) | (simp only [D.har, D.hcmp, D.hinb, D.hnt]; rfl))) ?_
                            clear h; intro h; cbv
                            refine R.brD h (by (first | rfl | (simp only [D.har, D.hcmp, D.hinb, D.hnt]; done) | (simp only [D.har, D.hcmp, D.hinb, D.hnt]; rfl))) ?_ ?_ <;> clear h <;> intro h <;> cbv
                            · refine R.callD h (fun x428 hx428 h2 => ?_)
                              clear h; have h := h2; clear h2
                              refine R.call' (w11 _ _ _ _ _ _ hx428) (by (first | rfl | (simp only [D.har, D.hcmp, D.hinb, D.hnt]; done) | (simp only [D.har, D.hcmp, D.hinb, D.hnt]; rfl))) ?_
                              clear hx428; cbv
                              refine R.needD h (by (first | rfl | (simp only [D.har, D.hcmp, D.hinb, D.hnt]; done) | (simp only [D.har, D.hcmp, D.hinb, D.hnt]; rfl))) ?_
                              clear h; intro h; cbv
                              refine R.brD h (by (first | rfl | (simp only [D.har, D.hcmp, D.hinb, D.hnt]; done) | (simp only [D.har, D.hcmp, D.hinb, D.hnt]; rfl))) ?_ ?_ <;> clear h <;> intro h <;> cbv
                              · refine R.callD h (fun x429 hx429 h2 => ?_)
                                clear h; have h := h2; clear h2
                                refine R.call' (w11 _ _ _ _ _ _ hx429) (by (first | rfl | (simp only [D.har, D.hcmp, D.hinb, D.hnt]; done) | (simp only [D.har, D.hcmp, D.hinb, D.hnt]; rfl))) ?_
                                clear hx429; cbv
                                refine R.brD h (by (first | rfl | (simp only [D.har, D.hcmp, D.hinb, D.hnt]; done) | (simp only [D.har, D.hcmp, D.hinb, D.hnt]; rfl))) ?_ ?_ <;> clear h <;> intro h <;> cbv
                                · have e := ret_some h; clear h
                                  have h := hFy415; rw [e] at h; clear e; try dsimp only at h
                                  cbv
                                  have e := inr_some h houts255; clear h
                                  have h := hFs255; rw [e] at h; clear e; try dsimp only at h
                                  cbv
                                  have e := ret_some h; clear h
                                  have h := hFy174; rw [e] at h; clear e; try dsimp only at h
                                  cbv
                                  have e := ret_some h; clear h
                                  refine hK _ _ ?_
                                  cbv
                                  try (subst e; simp only [D.har, D.hcmp, D.hinb, D.hnt, and_self, and_true, true_and] <;> (repeat' apply And.intro) <;> rfl)
                                · obtain ⟨s', e, hi⟩ := jn_some Sum.inl h
                                  refine hLy415 s' _ _ hi ⟨rfl, ?_, ?_, rfl, rfl⟩ <;> cbv <;> (try (subst e; simp only [D.har, D.hcmp, D.hinb, D.hnt, and_self, and_true, true_and] <;> (repeat' apply And.intro) <;> rfl))
                              · exact (none_some h).elim
                            · exact (none_some h).elim
                          · exact (none_some h).elim
                        · exact (none_some h).elim
                    · exact (none_some h).elim
                  · exact (none_some h).elim
              · exact (none_some h).elim
            · as_aux_lemma =>
              refine R.brD h (by (first | rfl | (simp only [D.har, D.hcmp, D.hinb, D.hnt]; done) | (simp only [D.har, D.hcmp, D.hinb, D.hnt]; rfl))) ?_ ?_ <;> clear h <;> intro h <;> cbv
              · as_aux_lemma =>
                refine R.callD h (fun x430 hx430 h2 => ?_)
                clear h; have h := h2; clear h2
                refine R.call' (w11 _ _ _ _ _ _ hx430) (by (first | rfl | (simp only [D.har, D.hcmp, D.hinb, D.hnt]; done) | (simp only [D.har, D.hcmp, D.hinb, D.hnt]; rfl))) ?_
                clear hx430; cbv
                refine R.needD h (by (first | rfl | (simp only [D.har, D.hcmp, D.hinb, D.hnt]; done) | (simp only [D.har, D.hcmp, D.hinb, D.hnt]; rfl))) ?_
                clear h; intro h; cbv
                refine R.brD h (by (first | rfl | (simp only [D.har, D.hcmp, D.hinb, D.hnt]; done) | (simp only [D.har, D.hcmp, D.hinb, D.hnt]; rfl))) ?_ ?_ <;> clear h <;> intro h <;> cbv
                · exact (none_some h).elim
                · refine R.brD h (by (first | rfl | (simp only [D.har, D.hcmp, D.hinb, D.hnt]; done) | (simp only [D.har, D.hcmp, D.hinb, D.hnt]; rfl))) ?_ ?_ <;> clear h <;> intro h <;> cbv
                  · refine R.callD h (fun x431 hx431 h2 => ?_)
                    clear h; have h := h2; clear h2
                    refine R.call' (w12 _ _ _ _ hx431) (by (first | rfl | (simp only [D.har, D.hcmp, D.hinb, D.hnt]; done) | (simp only [D.har, D.hcmp, D.hinb, D.hnt]; rfl))) ?_
                    clear hx431; cbv
                    refine R.callD h (fun x432 hx432 h2 => ?_)
                    clear h; have h := h2; clear h2
                    refine R.call' (w12 _ _ _ _ hx432) (by (first | rfl | (simp only [D.har, D.hcmp, D.hinb, D.hnt]; done) | (simp only [D.har, D.hcmp, D.hinb, D.hnt]; rfl))) ?_
                    clear hx432; cbv
                    refine R.callD h (fun x433 hx433 h2 => ?_)
                    clear h; have h := h2; clear h2
                    refine R.call' (w11 _ _ _ _ _ _ hx433) (by (first | rfl | (simp only [D.har, D.hcmp, D.hinb, D.hnt]; done) | (simp only [D.har, D.hcmp, D.hinb, D.hnt]; rfl))) ?_
                    clear hx433; cbv
                    refine R.cut' (by kernel_rfl) (by kernel_rfl) ?_
                    cbv
                    refine R.callD h (fun x436 hx436 h2 => ?_)
                    clear h; have h := h2; clear h2
                    refine R.call' (w12 _ _ _ _ hx436) (by (first | rfl | (simp only [D.har, D.hcmp, D.hinb, D.hnt]; done) | (simp only [D.har, D.hcmp, D.hinb, D.hnt]; rfl))) ?_
                    clear hx436; cbv
                    refine R.callD h (fun x437 hx437 h2 => ?_)
                    clear h; have h := h2; clear h2
                    refine R.call' (w12 _ _ _ _ hx437) (by (first | rfl | (simp only [D.har, D.hcmp, D.hinb, D.hnt]; done) | (simp only [D.har, D.hcmp, D.hinb, D.hnt]; rfl))) ?_
                    clear hx437; cbv
                    refine R.brD h (by (first | rfl | (simp only [D.har, D.hcmp, D.hinb, D.hnt]; done) | (simp only [D.har, D.hcmp, D.hinb, D.hnt]; rfl))) ?_ ?_ <;> clear h <;> intro h <;> cbv
                    · have e := ret_some h; clear h
                      have h := hFy415; rw [e] at h; clear e; try dsimp only at h
                      cbv
                      have e := inr_some h houts255; clear h
                      have h := hFs255; rw [e] at h; clear e; try dsimp only at h
                      cbv
                      have e := ret_some h; clear h
                      have h := hFy174; rw [e] at h; clear e; try dsimp only at h
                      cbv
                      have e := ret_some h; clear h
                      refine hK _ _ ?_
                      cbv
                      try (subst e; simp only [D.har, D.hcmp, D.hinb, D.hnt, and_self, and_true, true_and] <;> (repeat' apply And.intro) <;> rfl)
                    · refine R.cut' (by kernel_rfl) (by kernel_rfl) ?_
                      cbv
                      refine R.needD h (by (first | rfl | (simp only [D.har, D.hcmp, D.hinb, D.hnt]; done) | (simp only [D.har, D.hcmp, D.hinb, D.hnt]; rfl))) ?_
                      clear h; intro h; cbv
                      refine R.brD h (by (first | rfl | (simp only [D.har, D.hcmp, D.hinb, D.hnt]; done) | (simp only [D.har, D.hcmp, D.hinb, D.hnt]; rfl))) ?_ ?_ <;> clear h <;> intro h <;> cbv
                      · exact (none_some h).elim
                      · refine R.brD h (by (first | rfl | (simp only [D.har, D.hcmp, D.hinb, D.hnt]; done) | (simp only [D.har, D.hcmp, D.hinb, D.hnt]; rfl))) ?_ ?_ <;> clear h <;> intro h <;> cbv
                        · obtain ⟨s', e, hi⟩ := jn_some Sum.inl h
                          refine hLy415 s' _ _ hi ⟨rfl, ?_, ?_, rfl, rfl⟩ <;> cbv <;> (try (subst e; simp only [D.har, D.hcmp, D.hinb, D.hnt, and_self, and_true, true_and] <;> (repeat' apply And.intro) <;> rfl))
                        · exact (none_some h).elim
                  · exact (none_some h).elim
              · as_aux_lemma =>
                refine R.brD h (by (first | rfl | (simp only [D.har, D.hcmp, D.hinb, D.hnt]; done) | (simp only [D.har, D.hcmp, D.hinb, D.hnt]; rfl))) ?_ ?_ <;> clear h <;> intro h <;> cbv
                · as_aux_lemma =>
                  refine R.callD h (fun x438 hx438 h2 => ?_)
                  clear h; have h := h2; clear h2
                  refine R.call' (w11 _ _ _ _ _ _ hx438) (by (first | rfl | (simp only [D.har, D.hcmp, D.hinb, D.hnt]; done) | (simp only [D.har, D.hcmp, D.hinb, D.hnt]; rfl))) ?_
                  clear hx438; cbv
                  refine R.needD h (by (first | rfl | (simp only [D.har, D.hcmp, D.hinb, D.hnt]; done) | (simp only [D.har, D.hcmp, D.hinb, D.hnt]; rfl))) ?_
                  clear h; intro h; cbv
                  refine R.brD h (by (first | rfl | (simp only [D.har, D.hcmp, D.hinb, D.hnt]; done) | (simp only [D.har, D.hcmp, D.hinb, D.hnt]; rfl))) ?_ ?_ <;> clear h <;> intro h <;> cbv
                  · exact (none_some h).elim
                  · as_aux_lemma =>
                    refine R.brD h (by (first | rfl | (simp only [D.har, D.hcmp, D.hinb, D.hnt]; done) | (simp only [D.har, D.hcmp, D.hinb, D.hnt]; rfl))) ?_ ?_ <;> clear h <;> intro h <;> cbv
                    · exact (none_some h).elim
                    · as_aux_lemma =>
                      refine R.brD h (by (first | rfl | (simp only [D.har, D.hcmp, D.hinb, D.hnt]; done) | (simp only [D.har, D.hcmp, D.hinb, D.hnt]; rfl))) ?_ ?_ <;> clear h <;> intro h <;> cbv
                      · as_aux_lemma =>
                        refine R.callD h (fun x439 hx439 h2 => ?_)
                        clear h; have h := h2; clear h2
                        refine R.call' (w12 _ _ _ _ hx439) (by (first | rfl | (simp only [D.har, D.hcmp, D.hinb, D.hnt]; done) | (simp only [D.har, D.hcmp, D.hinb, D.hnt]; rfl))) ?_
                        clear hx439; cbv
                        refine R.callD h (fun x440 hx440 h2 => ?_)
                        clear h; have h := h2; clear h2
                        refine R.call' (w12 _ _ _ _ hx440) (by (first | rfl | (simp only [D.har, D.hcmp, D.hinb, D.hnt]; done) | (simp only [D.har, D.hcmp, D.hinb, D.hnt]; rfl))) ?_
                        clear hx440; cbv
                        refine R.callD h (fun x441 hx441 h2 => ?_)
                        clear h; have h := h2; clear h2
                        refine R.call' (w11 _ _ _ _ _ _ hx441) (by (first | rfl | (simp only [D.har, D.hcmp, D.hinb, D.hnt]; done) | (simp only [D.har, D.hcmp, D.hinb, D.hnt]; rfl))) ?_
                        clear hx441; cbv
                        refine R.cut' (by kernel_rfl) (by kernel_rfl) ?_
                        cbv
                        refine R.callD h (fun x444 hx444 h2 => ?_)
                        clear h; have h := h2; clear h2
                        refine R.call' (w12 _ _ _ _ hx444) (by (first | rfl | (simp only [D.har, D.hcmp, D.hinb, D.hnt]; done) | (simp only [D.har, D.hcmp, D.hinb, D.hnt]; rfl))) ?_
                        clear hx444; cbv
                        refine R.callD h (fun x445 hx445 h2 => ?_)
                        clear h; have h := h2; clear h2
                        refine R.call' (w12 _ _ _ _ hx445) (by (first | rfl | (simp only [D.har, D.hcmp, D.hinb, D.hnt]; done) | (simp only [D.har, D.hcmp, D.hinb, D.hnt]; rfl))) ?_
                        clear hx445; cbv
                        refine R.brD h (by (first | rfl | (simp only [D.har, D.hcmp, D.hinb, D.hnt]; done) | (simp only [D.har, D.hcmp, D.hinb, D.hnt]; rfl))) ?_ ?_ <;> clear h <;> intro h <;> cbv
                        · have e := ret_some h; clear h
                          have h := hFy415; rw [e] at h; clear e; try dsimp only at h
                          cbv
                          have e := inr_some h houts255; clear h
                          have h := hFs255; rw [e] at h; clear e; try dsimp only at h
                          cbv
                          have e := ret_some h; clear h
                          have h := hFy174; rw [e] at h; clear e; try dsimp only at h
                          cbv
                          have e := ret_some h; clear h
                          refine hK _ _ ?_
                          cbv
                          try (subst e; simp only [D.har, D.hcmp, D.hinb, D.hnt, and_self, and_true, true_and] <;> (repeat' apply And.intro) <;> rfl)
                        · as_aux_lemma =>
                          refine R.cut' (by kernel_rfl) (by kernel_rfl) ?_
                          cbv
                          refine R.needD h (by (first | rfl | (simp only [D.har, D.hcmp, D.hinb, D.hnt]; done) | (simp only [D.har, D.hcmp, D.hinb, D.hnt]; rfl))) ?_
                          clear h; intro h; cbv
                          refine R.brD h (by (first | rfl | (simp only [D.har, D.hcmp, D.hinb, D.hnt]; done) | (simp only [D.har, D.hcmp, D.hinb, D.hnt]; rfl))) ?_ ?_ <;> clear h <;> intro h <;> cbv
                          · exact (none_some h).elim
                          · as_aux_lemma =>
                            refine R.brD h (by (first | rfl | (simp only [D.har, D.hcmp, D.hinb, D.hnt]; done) | (simp only [D.har, D.hcmp, D.hinb, D.hnt]; rfl))) ?_ ?_ <;> clear h <;> intro h <;> cbv
                            · exact (none_some h).elim
                            · as_aux_lemma =>
                              refine R.brD h (by (first | rfl | (simp only [D.har, D.hcmp, D.hinb, D.hnt]; done) | (simp only [D.har, D.hcmp, D.hinb, D.hnt]; rfl))) ?_ ?_ <;> clear h <;> intro h <;> cbv
                              · as_aux_lemma =>
                                refine R.needD h (by (first | rfl | (simp only [D.har, D.hcmp, D.hinb, D.hnt]; done) | (simp only [D.har, D.hcmp, D.hinb, D.hnt]; rfl))) ?_
                                clear h; intro h; cbv
                                refine R.brD h (by (first | rfl | (simp only [D.har, D.hcmp, D.hinb, D.hnt]; done) | (simp only [D.har, D.hcmp, D.hinb, D.hnt]; rfl))) ?_ ?_ <;> clear h <;> intro h <;> cbv
                                · exact (none_some h).elim
                                · as_aux_lemma =>
                                  refine R.brD h (by (first | rfl | (simp only [D.har, D.hcmp, D.hinb, D.hnt]; done) | (simp only [D.har, D.hcmp, D.hinb, D.hnt]; rfl))) ?_ ?_ <;> clear h <;> intro h <;> cbv
                                  · exact (none_some h).elim
                                  · as_aux_lemma =>
                                    refine R.brD h (by (first | rfl | (simp only [D.har, D.hcmp, D.hinb, D.hnt]; done) | (simp only [D.har, D.hcmp, D.hinb, D.hnt]; rfl))) ?_ ?_ <;> clear h <;> intro h <;> cbv
                                    · as_aux_lemma =>
                                      refine R.callD h (fun x446 hx446 h2 => ?_)
                                      clear h; have h := h2; clear h2
                                      refine R.call' (w11 _ _ _ _ _ _ hx446) (by (first | rfl | (simp only [D.har, D.hcmp, D.hinb, D.hnt]; done) | (simp only [D.har, D.hcmp, D.hinb, D.hnt]; rfl))) ?_
                                      clear hx446; cbv
                                      refine R.cut' (by kernel_rfl) (by kernel_rfl) ?_
                                      cbv
                                      refine R.brD h (by (first | rfl | (simp only [D.har, D.hcmp, D.hinb, D.hnt]; done) | (simp only [D.har, D.hcmp, D.hinb, D.hnt]; rfl))) ?_ ?_ <;> clear h <;> intro h <;> cbv
                                      · have e := ret_some h; clear h
                                        have h := hFy415; rw [e] at h; clear e; try dsimp only at h
                                        cbv
                                        have e := inr_some h houts255; clear h
                                        have h := hFs255; rw [e] at h; clear e; try dsimp only at h
                                        cbv
                                        have e := ret_some h; clear h
                                        have h := hFy174; rw [e] at h; clear e; try dsimp only at h
                                        cbv
                                        have e := ret_some h; clear h
                                        refine hK _ _ ?_
                                        cbv
                                        try (subst e; simp only [D.har, D.hcmp, D.hinb, D.hnt, and_self, and_true, true_and] <;> (repeat' apply And.intro) <;> rfl)
                                      · as_aux_lemma =>
                                        refine R.callD h (fun x447 hx447 h2 => ?_)
                                        clear h; have h := h2; clear h2
                                        refine R.call' (w13 _ _ _ hx447) (by (first | rfl | (simp only [D.har, D.hcmp, D.hinb, D.hnt]; done) | (simp only [D.har, D.hcmp, D.hinb, D.hnt]; rfl))) ?_
                                        clear hx447; cbv
                                        refine R.needD h (by (first | rfl | (simp only [D.har, D.hcmp, D.hinb, D.hnt]; done) | (simp only [D.har, D.hcmp, D.hinb, D.hnt]; rfl))) ?_
                                        clear h; intro h; cbv
                                        refine R.brD h (by (first | rfl | (simp only [D.har, D.hcmp, D.hinb, D.hnt]; done) | (simp only [D.har, D.hcmp, D.hinb, D.hnt]; rfl))) ?_ ?_ <;> clear h <;> intro h <;> cbv
                                        · exact (none_some h).elim
                                        · as_aux_lemma =>
                                          refine R.brD h (by (first | rfl | (simp only [D.har, D.hcmp, D.hinb, D.hnt]; done) | (simp only [D.har, D.hcmp, D.hinb, D.hnt]; rfl))) ?_ ?_ <;> clear h <;> intro h <;> cbv
                                          · exact (none_some h).elim
                                          · as_aux_lemma =>
                                            refine R.brD h (by (first | rfl | (simp only [D.har, D.hcmp, D.hinb, D.hnt]; done) | (simp only [D.har, D.hcmp, D.hinb, D.hnt]; rfl))) ?_ ?_ <;> clear h <;> intro h <;> cbv
                                            · as_aux_lemma =>
                                              refine R.callD h (fun x448 hx448 h2 => ?_)
                                              clear h; have h := h2; clear h2
                                              refine R.call' (w11 _ _ _ _ _ _ hx448) (by (first | rfl | (simp only [D.har, D.hcmp, D.hinb, D.hnt]; done) | (simp only [D.har, D.hcmp, D.hinb, D.hnt]; rfl))) ?_
                                              clear hx448; cbv
                                              refine R.needD h (by (first | rfl | (simp only [D.har, D.hcmp, D.hinb, D.hnt]; done) | (simp only [D.har, D.hcmp, D.hinb, D.hnt]; rfl))) ?_
                                              clear h; intro h; cbv
                                              refine R.brD h (by (first | rfl | (simp only [D.har, D.hcmp, D.hinb, D.hnt]; done) | (simp only [D.har, D.hcmp, D.hinb, D.hnt]; rfl))) ?_ ?_ <;> clear h <;> intro h <;> cbv
                                              · exact (none_some h).elim
                                              · as_aux_lemma =>
                                                refine R.brD h (by (first | rfl | (simp only [D.har, D.hcmp, D.hinb, D.hnt]; done) | (simp only [D.har, D.hcmp, D.hinb, D.hnt]; rfl))) ?_ ?_ <;> clear h <;> intro h <;> cbv
                                                · exact (none_some h).elim
                                                · as_aux_lemma =>
                                                  refine R.brD h (by (first | rfl | (simp only [D.har, D.hcmp, D.hinb, D.hnt]; done) | (simp only [D.har, D.hcmp, D.hinb, D.hnt]; rfl))) ?_ ?_ <;> clear h <;> intro h <;> cbv
                                                  · as_aux_lemma =>
                                                    refine R.callD h (fun x449 hx449 h2 => ?_)
                                                    clear h; have h := h2; clear h2
                                                    refine R.call' (w11 _ _ _ _ _ _ hx449) (by (first | rfl | (simp only [D.har, D.hcmp, D.hinb, D.hnt]; done) | (simp only [D.har, D.hcmp, D.hinb, D.hnt]; rfl))) ?_
                                                    clear hx449; cbv
                                                    refine R.needD h (by (first | rfl | (simp only [D.har, D.hcmp, D.hinb, D.hnt]; done) | (simp only [D.har, D.hcmp, D.hinb, D.hnt]; rfl))) ?_
                                                    clear h; intro h; cbv
                                                    refine R.brD h (by (first | rfl | (simp only [D.har, D.hcmp, D.hinb, D.hnt]; done) | (simp only [D.har, D.hcmp, D.hinb, D.hnt]; rfl))) ?_ ?_ <;> clear h <;> intro h <;> cbv
                                                    · exact (none_some h).elim
                                                    · as_aux_lemma =>
                                                      refine R.brD h (by (first | rfl | (simp only [D.har, D.hcmp, D.hinb, D.hnt]; done) | (simp only [D.har, D.hcmp, D.hinb, D.hnt]; rfl))) ?_ ?_ <;> clear h <;> intro h <;> cbv
                                                      · exact (none_some h).elim
                                                      · as_aux_lemma =>
                                                        refine R.brD h (by (first | rfl | (simp only [D.har, D.hcmp, D.hinb, D.hnt]; done) | (simp only [D.har, D.hcmp, D.hinb, D.hnt]; rfl))) ?_ ?_ <;> clear h <;> intro h <;> cbv
                                                        · as_aux_lemma =>
                                                          refine R.callD h (fun x450 hx450 h2 => ?_)
                                                          clear h; have h := h2; clear h2
                                                          refine R.call' (w11 _ _ _ _ _ _ hx450) (by (first | rfl | (simp only [D.har, D.hcmp, D.hinb, D.hnt]; done) | (simp only [D.har, D.hcmp, D.hinb, D.hnt]; rfl))) ?_
                                                          clear hx450; cbv
                                                          refine R.needD h (by (first | rfl | (simp only [D.har, D.hcmp, D.hinb, D.hnt]; done) | (simp only [D.har, D.hcmp, D.hinb, D.hnt]; rfl))) ?_
                                                          clear h; intro h; cbv
                                                          refine R.brD h (by (first | rfl | (simp only [D.har, D.hcmp, D.hinb, D.hnt]; done) | (simp only [D.har, D.hcmp, D.hinb, D.hnt]; rfl))) ?_ ?_ <;> clear h <;> intro h <;> cbv
                                                          · exact (none_some h).elim
                                                          · refine R.brD h (by (first | rfl | (simp only [D.har, D.hcmp, D.hinb, D.hnt]; done) | (simp only [D.har, D.hcmp, D.hinb, D.hnt]; rfl))) ?_ ?_ <;> clear h <;> intro h <;> cbv
                                                            · exact (none_some h).elim
                                                            · refine R.brD h (by (first | rfl | (simp only [D.har, D.hcmp, D.hinb, D.hnt]; done) | (simp only [D.har, D.hcmp, D.hinb, D.hnt]; rfl))) ?_ ?_ <;> clear h <;> intro h <;> cbv
                                                              · refine R.callD h (fun x451 hx451 h2 => ?_)
                                                                clear h; have h := h2; clear h2
                                                                refine R.call' (w11 _ _ _ _ _ _ hx451) (by (first | rfl | (simp only [D.har, D.hcmp, D.hinb, D.hnt]; done) | (simp only [D.har, D.hcmp, D.hinb, D.hnt]; rfl))) ?_
                                                                clear hx451; cbv
                                                                refine R.brD h (by (first | rfl | (simp only [D.har, D.hcmp, D.hinb, D.hnt]; done) | (simp only [D.har, D.hcmp, D.hinb, D.hnt]; rfl))) ?_ ?_ <;> clear h <;> intro h <;> cbv
                                                                · have e := ret_some h; clear h
                                                                  have h := hFy415; rw [e] at h; clear e; try dsimp only at h
                                                                  cbv
                                                                  have e := inr_some h houts255; clear h
                                                                  have h := hFs255; rw [e] at h; clear e; try dsimp only at h
                                                                  cbv
                                                                  have e := ret_some h; clear h
                                                                  have h := hFy174; rw [e] at h; clear e; try dsimp only at h
                                                                  cbv
                                                                  have e := ret_some h; clear h
                                                                  refine hK _ _ ?_
                                                                  cbv
                                                                  try (subst e; simp only [D.har, D.hcmp, D.hinb, D.hnt, and_self, and_true, true_and] <;> (repeat' apply And.intro) <;> rfl)
                                                                · obtain ⟨s', e, hi⟩ := jn_some Sum.inl h
                                                                  refine hLy415 s' _ _ hi ⟨rfl, ?_, ?_, rfl, rfl⟩ <;> cbv <;> (try (subst e; simp only [D.har, D.hcmp, D.hinb, D.hnt, and_self, and_true, true_and] <;> (repeat' apply And.intro) <;> rfl))
                                                              · exact (none_some h).elim
                                                        · exact (none_some h).elim
                                                  · exact (none_some h).elim
                                            · exact (none_some h).elim
                                    · exact (none_some h).elim
                              · exact (none_some h).elim
                      · exact (none_some h).elim
                · as_aux_lemma =>
                  refine R.brD h (by (first | rfl | (simp only [D.har, D.hcmp, D.hinb, D.hnt]; done) | (simp only [D.har, D.hcmp, D.hinb, D.hnt]; rfl))) ?_ ?_ <;> clear h <;> intro h <;> cbv
                  · as_aux_lemma =>
                    refine R.callD h (fun x452 hx452 h2 => ?_)
                    clear h; have h := h2; clear h2
                    refine R.call' (w11 _ _ _ _ _ _ hx452) (by (first | rfl | (simp only [D.har, D.hcmp, D.hinb, D.hnt]; done) | (simp only [D.har, D.hcmp, D.hinb, D.hnt]; rfl))) ?_
                    clear hx452; cbv
                    refine R.needD h (by (first | rfl | (simp only [D.har, D.hcmp, D.hinb, D.hnt]; done) | (simp only [D.har, D.hcmp, D.hinb, D.hnt]; rfl))) ?_
                    clear h; intro h; cbv
                    refine R.brD h (by (first | rfl | (simp only [D.har, D.hcmp, D.hinb, D.hnt]; done) | (simp only [D.har, D.hcmp, D.hinb, D.hnt]; rfl))) ?_ ?_ <;> clear h <;> intro h <;> cbv
                    · exact (none_some h).elim
                    · as_aux_lemma =>
                      refine R.brD h (by (first | rfl | (simp only [D.har, D.hcmp, D.hinb, D.hnt]; done) | (simp only [D.har, D.hcmp, D.hinb, D.hnt]; rfl))) ?_ ?_ <;> clear h <;> intro h <;> cbv
                      · exact (none_some h).elim
                      · as_aux_lemma =>
                        refine R.brD h (by (first | rfl | (simp only [D.har, D.hcmp, D.hinb, D.hnt]; done) | (simp only [D.har, D.hcmp, D.hinb, D.hnt]; rfl))) ?_ ?_ <;> clear h <;> intro h <;> cbv
                        · exact (none_some h).elim
                        · as_aux_lemma =>
                          refine R.brD h (by (first | rfl | (simp only [D.har, D.hcmp, D.hinb, D.hnt]; done) | (simp only [D.har, D.hcmp, D.hinb, D.hnt]; rfl))) ?_ ?_ <;> clear h <;> intro h <;> cbv
                          · as_aux_lemma =>
                            refine R.callD h (fun x453 hx453 h2 => ?_)
                            clear h; have h := h2; clear h2
                            refine R.call' (w12 _ _ _ _ hx453) (by (first | rfl | (simp only [D.har, D.hcmp, D.hinb, D.hnt]; done) | (simp only [D.har, D.hcmp, D.hinb, D.hnt]; rfl))) ?_
                            clear hx453; cbv
                            refine R.callD h (fun x454 hx454 h2 => ?_)
                            clear h; have h := h2; clear h2
                            refine R.call' (w12 _ _ _ _ hx454) (by (first | rfl | (simp only [D.har, D.hcmp, D.hinb, D.hnt]; done) | (simp only [D.har, D.hcmp, D.hinb, D.hnt]; rfl))) ?_
                            clear hx454; cbv
                            refine R.callD h (fun x455 hx455 h2 => ?_)
                            clear h; have h := h2; clear h2
                            refine R.call' (w11 _ _ _ _ _ _ hx455) (by (first | rfl | (simp only [D.har, D.hcmp, D.hinb, D.hnt]; done) | (simp only [D.har, D.hcmp, D.hinb, D.hnt]; rfl))) ?_
                            clear hx455; cbv
                            refine R.cut' (by kernel_rfl) (by kernel_rfl) ?_
                            cbv
                            refine R.callD h (fun x458 hx458 h2 => ?_)
                            clear h; have h := h2; clear h2
                            refine R.call' (w12 _ _ _ _ hx458) (by (first | rfl | (simp only [D.har, D.hcmp, D.hinb, D.hnt]; done) | (simp only [D.har, D.hcmp, D.hinb, D.hnt]; rfl))) ?_
                            clear hx458; cbv
                            refine R.callD h (fun x459 hx459 h2 => ?_)
                            clear h; have h := h2; clear h2
                            refine R.call' (w12 _ _ _ _ hx459) (by (first | rfl | (simp only [D.har, D.hcmp, D.hinb, D.hnt]; done) | (simp only [D.har, D.hcmp, D.hinb, D.hnt]; rfl))) ?_
                            clear hx459; cbv
                            refine R.brD h (by (first | rfl | (simp only [D.har, D.hcmp, D.hinb, D.hnt]; done) | (simp only [D.har, D.hcmp, D.hinb, D.hnt]; rfl))) ?_ ?_ <;> clear h <;> intro h <;> cbv
                            · have e := ret_some h; clear h
                              have h := hFy415; rw [e] at h; clear e; try dsimp only at h
                              cbv
                              have e := inr_some h houts255; clear h
                              have h := hFs255; rw [e] at h; clear e; try dsimp only at h
                              cbv
                              have e := ret_some h; clear h
                              have h := hFy174; rw [e] at h; clear e; try dsimp only at h
                              cbv
                              have e := ret_some h; clear h
                              refine hK _ _ ?_
                              cbv
                              try (subst e; simp only [D.har, D.hcmp, D.hinb, D.hnt, and_self, and_true, true_and] <;> (repeat' apply And.intro) <;> rfl)
                            · as_aux_lemma =>
                              refine R.cut' (by kernel_rfl) (by kernel_rfl) ?_
                              cbv
                              refine R.needD h (by (first | rfl | (simp only [D.har, D.hcmp, D.hinb, D.hnt]; done) | (simp only [D.har, D.hcmp, D.hinb, D.hnt]; rfl))) ?_
                              clear h; intro h; cbv
                              refine R.brD h (by (first | rfl | (simp only [D.har, D.hcmp, D.hinb, D.hnt]; done) | (simp only [D.har, D.hcmp, D.hinb, D.hnt]; rfl))) ?_ ?_ <;> clear h <;> intro h <;> cbv
                              · exact (none_some h).elim
                              · as_aux_lemma =>
                                refine R.brD h (by (first | rfl | (simp only [D.har, D.hcmp, D.hinb, D.hnt]; done) | (simp only [D.har, D.hcmp, D.hinb, D.hnt]; rfl))) ?_ ?_ <;> clear h <;> intro h <;> cbv
                                · exact (none_some h).elim
                                · as_aux_lemma =>
                                  refine R.brD h (by (first | rfl | (simp only [D.har, D.hcmp, D.hinb, D.hnt]; done) | (simp only [D.har, D.hcmp, D.hinb, D.hnt]; rfl))) ?_ ?_ <;> clear h <;> intro h <;> cbv
                                  · exact (none_some h).elim
                                  · as_aux_lemma =>
                                    refine R.brD h (by (first | rfl | (simp only [D.har, D.hcmp, D.hinb, D.hnt]; done) | (simp only [D.har, D.hcmp, D.hinb, D.hnt]; rfl))) ?_ ?_ <;> clear h <;> intro h <;> cbv
                                    · as_aux_lemma =>
                                      refine R.needD h (by (first | rfl | (simp only [D.har, D.hcmp, D.hinb, D.hnt]; done) | (simp only [D.har, D.hcmp, D.hinb, D.hnt]; rfl))) ?_
                                      clear h; intro h; cbv
                                      refine R.brD h (by (first | rfl | (simp only [D.har, D.hcmp, D.hinb, D.hnt]; done) | (simp only [D.har, D.hcmp, D.hinb, D.hnt]; rfl))) ?_ ?_ <;> clear h <;> intro h <;> cbv
                                      · exact (none_some h).elim
                                      · as_aux_lemma =>
                                        refine R.brD h (by (first | rfl | (simp only [D.har, D.hcmp, D.hinb, D.hnt]; done) | (simp only [D.har, D.hcmp, D.hinb, D.hnt]; rfl))) ?_ ?_ <;> clear h <;> intro h <;> cbv
                                        · exact (none_some h).elim
                                        · as_aux_lemma =>
                                          refine R.brD h (by (first | rfl | (simp only [D.har, D.hcmp, D.hinb, D.hnt]; done) | (simp only [D.har, D.hcmp, D.hinb, D.hnt]; rfl))) ?_ ?_ <;> clear h <;> intro h <;> cbv
                                          · exact (none_some h).elim
                                          · as_aux_lemma =>
                                            refine R.brD h (by (first | rfl | (simp only [D.har, D.hcmp, D.hinb, D.hnt]; done) | (simp only [D.har, D.hcmp, D.hinb, D.hnt]; rfl))) ?_ ?_ <;> clear h <;> intro h <;> cbv
                                            · as_aux_lemma =>
                                              refine R.callD h (fun x460 hx460 h2 => ?_)
                                              clear h; have h := h2; clear h2
                                              refine R.call' (w11 _ _ _ _ _ _ hx460) (by (first | rfl | (simp only [D.har, D.hcmp, D.hinb, D.hnt]; done) | (simp only [D.har, D.hcmp, D.hinb, D.hnt]; rfl))) ?_
                                              clear hx460; cbv
                                              refine R.cut' (by kernel_rfl) (by kernel_rfl) ?_
                                              cbv
                                              refine R.brD h (by (first | rfl | (simp only [D.har, D.hcmp, D.hinb, D.hnt]; done) | (simp only [D.har, D.hcmp, D.hinb, D.hnt]; rfl))) ?_ ?_ <;> clear h <;> intro h <;> cbv
                                              · have e := ret_some h; clear h
                                                have h := hFy415; rw [e] at h; clear e; try dsimp only at h
                                                cbv
                                                have e := inr_some h houts255; clear h
                                                have h := hFs255; rw [e] at h; clear e; try dsimp only at h
                                                cbv
                                                have e := ret_some h; clear h
                                                have h := hFy174; rw [e] at h; clear e; try dsimp only at h
                                                cbv
                                                have e := ret_some h; clear h
                                                refine hK _ _ ?_
                                                cbv
                                                try (subst e; simp only [D.har, D.hcmp, D.hinb, D.hnt, and_self, and_true, true_and] <;> (repeat' apply And.intro) <;> rfl)
                                              · as_aux_lemma =>
                                                refine R.callD h (fun x461 hx461 h2 => ?_)
                                                clear h; have h := h2; clear h2
                                                refine R.call' (w13 _ _ _ hx461) (by (first | rfl | (simp only [D.har, D.hcmp, D.hinb, D.hnt]; done) | (simp only [D.har, D.hcmp, D.hinb, D.hnt]; rfl))) ?_
                                                clear hx461; cbv
                                                refine R.needD h (by (first | rfl | (simp only [D.har, D.hcmp, D.hinb, D.hnt]; done) | (simp only [D.har, D.hcmp, D.hinb, D.hnt]; rfl))) ?_
                                                clear h; intro h; cbv
                                                refine R.brD h (by (first | rfl | (simp only [D.har, D.hcmp, D.hinb, D.hnt]; done) | (simp only [D.har, D.hcmp, D.hinb, D.hnt]; rfl))) ?_ ?_ <;> clear h <;> intro h <;> cbv
                                                · exact (none_some h).elim
                                                · as_aux_lemma =>
                                                  refine R.brD h (by (first | rfl | (simp only [D.har, D.hcmp, D.hinb, D.hnt]; done) | (simp only [D.har, D.hcmp, D.hinb, D.hnt]; rfl))) ?_ ?_ <;> clear h <;> intro h <;> cbv
                                                  · exact (none_some h).elim
                                                  · as_aux_lemma =>
                                                    refine R.brD h (by (first | rfl | (simp only [D.har, D.hcmp, D.hinb, D.hnt]; done) | (simp only [D.har, D.hcmp, D.hinb, D.hnt]; rfl))) ?_ ?_ <;> clear h <;> intro h <;> cbv
                                                    · exact (none_some h).elim
                                                    · as_aux_lemma =>
                                                      refine R.brD h (by (first | rfl | (simp only [D.har, D.hcmp, D.hinb, D.hnt]; done) | (simp only [D.har, D.hcmp, D.hinb, D.hnt]; rfl))) ?_ ?_ <;> clear h <;> intro h <;> cbv
                                                      · as_aux_lemma =>
                                                        refine R.callD h (fun x462 hx462 h2 => ?_)
                                                        clear h; have h := h2; clear h2
                                                        refine R.call' (w11 _ _ _ _ _ _ hx462) (by (first | rfl | (simp only [D.har, D.hcmp, D.hinb, D.hnt]; done) | (simp only [D.har, D.hcmp, D.hinb, D.hnt]; rfl))) ?_
                                                        clear hx462; cbv
                                                        refine R.needD h (by (first | rfl | (simp only [D.har, D.hcmp, D.hinb, D.hnt]; done) | (simp only [D.har, D.hcmp, D.hinb, D.hnt]; rfl))) ?_
                                                        clear h; intro h; cbv
                                                        refine R.brD h (by (first | rfl | (simp only [D.har, D.hcmp, D.hinb, D.hnt]; done) | (simp only [D.har, D.hcmp, D.hinb, D.hnt]; rfl))) ?_ ?_ <;> clear h <;> intro h <;> cbv
                                                        · exact (none_some h).elim
                                                        · as_aux_lemma =>
                                                          refine R.brD h (by (first | rfl | (simp only [D.har, D.hcmp, D.hinb, D.hnt]; done) | (simp only [D.har, D.hcmp, D.hinb, D.hnt]; rfl))) ?_ ?_ <;> clear h <;> intro h <;> cbv
                                                          · exact (none_some h).elim
                                                          · as_aux_lemma =>
                                                            refine R.brD h (by (first | rfl | (simp only [D.har, D.hcmp, D.hinb, D.hnt]; done) | (simp only [D.har, D.hcmp, D.hinb, D.hnt]; rfl))) ?_ ?_ <;> clear h <;> intro h <;> cbv
                                                            · exact (none_some h).elim
                                                            · as_aux_lemma =>
                                                              refine R.brD h (by (first | rfl | (simp only [D.har, D.hcmp, D.hinb, D.hnt]; done) | (simp only [D.har, D.hcmp, D.hinb, D.hnt]; rfl))) ?_ ?_ <;> clear h <;> intro h <;> cbv
                                                              · as_aux_lemma =>
                                                                refine R.callD h (fun x463 hx463 h2 => ?_)
                                                                clear h; have h := h2; clear h2
                                                                refine R.call' (w11 _ _ _ _ _ _ hx463) (by (first | rfl | (simp only [D.har, D.hcmp, D.hinb, D.hnt]; done) | (simp only [D.har, D.hcmp, D.hinb, D.hnt]; rfl))) ?_
                                                                clear hx463; cbv
                                                                refine R.needD h (by (first | rfl | (simp only [D.har, D.hcmp, D.hinb, D.hnt]; done) | (simp only [D.har, D.hcmp, D.hinb, D.hnt]; rfl))) ?_
                                                                clear h; intro h; cbv
                                                                refine R.brD h (by (first | rfl | (simp only [D.har, D.hcmp, D.hinb, D.hnt]; done) | (simp only [D.har, D.hcmp, D.hinb, D.hnt]; rfl))) ?_ ?_ <;> clear h <;> intro h <;> cbv
                                                                · exact (none_some h).elim
                                                                · as_aux_lemma =>
                                                                  refine R.brD h (by (first | rfl | (simp only [D.har, D.hcmp, D.hinb, D.hnt]; done) | (simp only [D.har, D.hcmp, D.hinb, D.hnt]; rfl))) ?_ ?_ <;> clear h <;> intro h <;> cbv
                                                                  · exact (none_some h).elim
                                                                  · as_aux_lemma =>
                                                                    refine R.brD h (by (first | rfl | (simp only [D.har, D.hcmp, D.hinb, D.hnt]; done) | (simp only [D.har, D.hcmp, D.hinb, D.hnt]; rfl))) ?_ ?_ <;> clear h <;> intro h <;> cbv
                                                                    · exact (none_some h).elim
                                                                    · as_aux_lemma =>
                                                                      refine R.brD h (by (first | rfl | (simp only [D.har, D.hcmp, D.hinb, D.hnt]; done) | (simp only [D.har, D.hcmp, D.hinb, D.hnt]; rfl))) ?_ ?_ <;> clear h <;> intro h <;> cbv
                                                                      · as_aux_lemma =>
                                                                        refine R.callD h (fun x464 hx464 h2 => ?_)
                                                                        clear h; have h := h2; clear h2
                                                                        refine R.call' (w11 _ _ _ _ _ _ hx464) (by (first | rfl | (simp only [D.har, D.hcmp, D.hinb, D.hnt]; done) | (simp only [D.har, D.hcmp, D.hinb, D.hnt]; rfl))) ?_
                                                                        clear hx464; cbv
                                                                        refine R.needD h (by (first | rfl | (simp only [D.har, D.hcmp, D.hinb, D.hnt]; done) | (simp only [D.har, D.hcmp, D.hinb, D.hnt]; rfl))) ?_
                                                                        clear h; intro h; cbv
                                                                        refine R.brD h (by (first | rfl | (simp only [D.har, D.hcmp, D.hinb, D.hnt]; done) | (simp only [D.har, D.hcmp, D.hinb, D.hnt]; rfl))) ?_ ?_ <;> clear h <;> intro h <;> cbv
                                                                        · exact (none_some h).elim
                                                                        · as_aux_lemma =>
                                                                          refine R.brD h (by (first | rfl | (simp only [D.har, D.hcmp, D.hinb, D.hnt]; done) | (simp only [D.har, D.hcmp, D.hinb, D.hnt]; rfl))) ?_ ?_ <;> clear h <;> intro h <;> cbv
                                                                          · exact (none_some h).elim
                                                                          · refine R.brD h (by (first | rfl | (simp only [D.har, D.hcmp, D.hinb, D.hnt]; done) | (simp only [D.har, D.hcmp, D.hinb, D.hnt]; rfl))) ?_ ?_ <;> clear h <;> intro h <;> cbv
                                                                            · exact (none_some h).elim
                                                                            · refine R.brD h (by (first | rfl | (simp only [D.har, D.hcmp, D.hinb, D.hnt]; done) | (simp only [D.har, D.hcmp, D.hinb, D.hnt]; rfl))) ?_ ?_ <;> clear h <;> intro h <;> cbv
                                                                              · refine R.callD h (fun x465 hx465 h2 => ?_)
                                                                                clear h; have h := h2; clear h2
                                                                                refine R.call' (w11 _ _ _ _ _ _ hx465) (by (first | rfl | (simp only [D.har, D.hcmp, D.hinb, D.hnt]; done) | (simp only [D.har, D.hcmp, D.hinb, D.hnt]; rfl))) ?_
                                                                                clear hx465; cbv
                                                                                refine R.brD h (by (first | rfl | (simp only [D.har, D.hcmp, D.hinb, D.hnt]; done) | (simp only [D.har, D.hcmp, D.hinb, D.hnt]; rfl))) ?_ ?_ <;> clear h <;> intro h <;> cbv
                                                                                · have e := ret_some h; clear h
                                                                                  have h := hFy415; rw [e] at h; clear e; try dsimp only at h
                                                                                  cbv
                                                                                  have e := inr_some h houts255; clear h
                                                                                  have h := hFs255; rw [e] at h; clear e; try dsimp only at h
                                                                                  cbv
                                                                                  have e := ret_some h; clear h
                                                                                  have h := hFy174; rw [e] at h; clear e; try dsimp only at h
                                                                                  cbv
                                                                                  have e := ret_some h; clear h
                                                                                  refine hK _ _ ?_
                                                                                  cbv
                                                                                  try (subst e; simp only [D.har, D.hcmp, D.hinb, D.hnt, and_self, and_true, true_and] <;> (repeat' apply And.intro) <;> rfl)
                                                                                · obtain ⟨s', e, hi⟩ := jn_some Sum.inl h
                                                                                  refine hLy415 s' _ _ hi ⟨rfl, ?_, ?_, rfl, rfl⟩ <;> cbv <;> (try (subst e; simp only [D.har, D.hcmp, D.hinb, D.hnt, and_self, and_true, true_and] <;> (repeat' apply And.intro) <;> rfl))
                                                                              · exact (none_some h).elim
                                                                      · exact (none_some h).elim
                                                              · exact (none_some h).elim
                                                      · exact (none_some h).elim
                                            · exact (none_some h).elim
                                    · exact (none_some h).elim
                          · exact (none_some h).elim
                  · as_aux_lemma =>
                    refine R.brD h (by (first | rfl | (simp only [D.har, D.hcmp, D.hinb, D.hnt]; done) | (simp only [D.har, D.hcmp, D.hinb, D.hnt]; rfl))) ?_ ?_ <;> clear h <;> intro h <;> cbv
                    · as_aux_lemma =>
                      refine R.callD h (fun x466 hx466 h2 => ?_)
                      clear h; have h := h2; clear h2
                      refine R.call' (w11 _ _ _ _ _ _ hx466) (by (first | rfl | (simp only [D.har, D.hcmp, D.hinb, D.hnt]; done) | (simp only [D.har, D.hcmp, D.hinb, D.hnt]; rfl))) ?_
                      clear hx466; cbv
                      refine R.needD h (by (first | rfl | (simp only [D.har, D.hcmp, D.hinb, D.hnt]; done) | (simp only [D.har, D.hcmp, D.hinb, D.hnt]; rfl))) ?_
                      clear h; intro h; cbv
                      refine R.brD h (by (first | rfl | (simp only [D.har, D.hcmp, D.hinb, D.hnt]; done) | (simp only [D.har, D.hcmp, D.hinb, D.hnt]; rfl))) ?_ ?_ <;> clear h <;> intro h <;> cbv
                      · exact (none_some h).elim
                      · as_aux_lemma =>
                        refine R.brD h (by (first | rfl | (simp only [D.har, D.hcmp, D.hinb, D.hnt]; done) | (simp only [D.har, D.hcmp, D.hinb, D.hnt]; rfl))) ?_ ?_ <;> clear h <;> intro h <;> cbv
                        · exact (none_some h).elim
                        · as_aux_lemma =>
                          refine R.brD h (by (first | rfl | (simp only [D.har, D.hcmp, D.hinb, D.hnt]; done) | (simp only [D.har, D.hcmp, D.hinb, D.hnt]; rfl))) ?_ ?_ <;> clear h <;> intro h <;> cbv
                          · exact (none_some h).elim
                          · as_aux_lemma =>
                            refine R.brD h (by (first | rfl | (simp only [D.har, D.hcmp, D.hinb, D.hnt]; done) | (simp only [D.har, D.hcmp, D.hinb, D.hnt]; rfl))) ?_ ?_ <;> clear h <;> intro h <;> cbv
                            · exact (none_some h).elim
                            · as_aux_lemma =>
                              refine R.brD h (by (first | rfl | (simp only [D.har, D.hcmp, D.hinb, D.hnt]; done) | (simp only [D.har, D.hcmp, D.hinb, D.hnt]; rfl))) ?_ ?_ <;> clear h <;> intro h <;> cbv
                              · as_aux_lemma =>
                                refine R.callD h (fun x467 hx467 h2 => ?_)
                                clear h; have h := h2; clear h2
                                refine R.call' (w12 _ _ _ _ hx467) (by (first | rfl | (simp only [D.har, D.hcmp, D.hinb, D.hnt]; done) | (simp only [D.har, D.hcmp, D.hinb, D.hnt]; rfl))) ?_
                                clear hx467; cbv
                                refine R.callD h (fun x468 hx468 h2 => ?_)
                                clear h; have h := h2; clear h2
                                refine R.call' (w12 _ _ _ _ hx468) (by (first | rfl | (simp only [D.har, D.hcmp, D.hinb, D.hnt]; done) | (simp only [D.har, D.hcmp, D.hinb, D.hnt]; rfl))) ?_
                                clear hx468; cbv
                                refine R.callD h (fun x469 hx469 h2 => ?_)
                                clear h; have h := h2; clear h2
                                refine R.call' (w11 _ _ _ _ _ _ hx469) (by (first | rfl | (simp only [D.har, D.hcmp, D.hinb, D.hnt]; done) | (simp only [D.har, D.hcmp, D.hinb, D.hnt]; rfl))) ?_
                                clear hx469; cbv
                                refine R.cut' (by kernel_rfl) (by kernel_rfl) ?_
                                cbv
                                refine R.callD h (fun x472 hx472 h2 => ?_)
                                clear h; have h := h2; clear h2
                                refine R.call' (w12 _ _ _ _ hx472) (by (first | rfl | (simp only [D.har, D.hcmp, D.hinb, D.hnt]; done) | (simp only [D.har, D.hcmp, D.hinb, D.hnt]; rfl))) ?_
                                clear hx472; cbv
                                refine R.callD h (fun x473 hx473 h2 => ?_)
                                clear h; have h := h2; clear h2
                                refine R.call' (w12 _ _ _ _ hx473) (by (first | rfl | (simp only [D.har, D.hcmp, D.hinb, D.hnt]; done) | (simp only [D.har, D.hcmp, D.hinb, D.hnt]; rfl))) ?_
                                clear hx473; cbv
                                refine R.brD h (by (first | rfl | (simp only [D.har, D.hcmp, D.hinb, D.hnt]; done) | (simp only [D.har, D.hcmp, D.hinb, D.hnt]; rfl))) ?_ ?_ <;> clear h <;> intro h <;> cbv
                                · have e := ret_some h; clear h
                                  have h := hFy415; rw [e] at h; clear e; try dsimp only at h
                                  cbv
                                  have e := inr_some h houts255; clear h
                                  have h := hFs255; rw [e] at h; clear e; try dsimp only at h
                                  cbv
                                  have e := ret_some h; clear h
                                  have h := hFy174; rw [e] at h; clear e; try dsimp only at h
                                  cbv
                                  have e := ret_some h; clear h
                                  refine hK _ _ ?_
                                  cbv
                                  try (subst e; simp only [D.har, D.hcmp, D.hinb, D.hnt, and_self, and_true, true_and] <;> (repeat' apply And.intro) <;> rfl)
                                · as_aux_lemma =>
                                  refine R.cut' (by kernel_rfl) (by kernel_rfl) ?_
                                  cbv
                                  refine R.needD h (by (first | rfl | (simp only [D.har, D.hcmp, D.hinb, D.hnt]; done) | (simp only [D.har, D.hcmp, D.hinb, D.hnt]; rfl))) ?_
                                  clear h; intro h; cbv
                                  refine R.brD h (by (first | rfl | (simp only [D.har, D.hcmp, D.hinb, D.hnt]; done) | (simp only [D.har, D.hcmp, D.hinb, D.hnt]; rfl))) ?_ ?_ <;> clear h <;> intro h <;> cbv
                                  · exact (none_some h).elim
                                  · as_aux_lemma =>
                                    refine R.brD h (by (first | rfl | (simp only [D.har, D.hcmp, D.hinb, D.hnt]; done) | (simp only [D.har, D.hcmp, D.hinb, D.hnt]; rfl))) ?_ ?_ <;> clear h <;> intro h <;> cbv
                                    · exact (none_some h).elim
                                    · as_aux_lemma =>
                                      refine R.brD h (by (first | rfl | (simp only [D.har, D.hcmp, D.hinb, D.hnt]; done) | (simp only [D.har, D.hcmp, D.hinb, D.hnt]; rfl))) ?_ ?_ <;> clear h <;> intro h <;> cbv
                                      · exact (none_some h).elim
                                      · as_aux_lemma =>
                                        refine R.brD h (by (first | rfl | (simp only [D.har, D.hcmp, D.hinb, D.hnt]; done) | (simp only [D.har, D.hcmp, D.hinb, D.hnt]; rfl))) ?_ ?_ <;> clear h <;> intro h <;> cbv
                                        · exact (none_some h).elim
                                        · as_aux_lemma =>
                                          refine R.brD h (by (first | rfl | (simp only [D.har, D.hcmp, D.hinb, D.hnt]; done) | (simp only [D.har, D.hcmp, D.hinb, D.hnt]; rfl))) ?_ ?_ <;> clear h <;> intro h <;> cbv
                                          · as_aux_lemma =>
                                            refine R.needD h (by (first | rfl | (simp only [D.har, D.hcmp, D.hinb, D.hnt]; done) | (simp only [D.har, D.hcmp, D.hinb, D.hnt]; rfl))) ?_
                                            clear h; intro h; cbv
                                            refine R.brD h (by (first | rfl | (simp only [D.har, D.hcmp, D.hinb, D.hnt]; done) | (simp only [D.har, D.hcmp, D.hinb, D.hnt]; rfl))) ?_ ?_ <;> clear h <;> intro h <;> cbv
                                            · exact (none_some h).elim
                                            · as_aux_lemma =>
                                              refine R.brD h (by (first | rfl | (simp only [D.har, D.hcmp, D.hinb, D.hnt]; done) | (simp only [D.har, D.hcmp, D.hinb, D.hnt]; rfl))) ?_ ?_ <;> clear h <;> intro h <;> cbv
                                              · exact (none_some h).elim
                                              · as_aux_lemma =>
                                                refine R.brD h (by (first | rfl | (simp only [D.har, D.hcmp, D.hinb, D.hnt]; done) | (simp only [D.har, D.hcmp, D.hinb, D.hnt]; rfl))) ?_ ?_ <;> clear h <;> intro h <;> cbv
                                                · exact (none_some h).elim
                                                · as_aux_lemma =>
                                                  refine R.brD h (by (first | rfl | (simp only [D.har, D.hcmp, D.hinb, D.hnt]; done) | (simp only [D.har, D.hcmp, D.hinb, D.hnt]; rfl))) ?_ ?_ <;> clear h <;> intro h <;> cbv
                                                  · exact (none_some h).elim
                                                  · as_aux_lemma =>
                                                    refine R.brD h (by (first | rfl | (simp only [D.har, D.hcmp, D.hinb, D.hnt]; done) | (simp only [D.har, D.hcmp, D.hinb, D.hnt]; rfl))) ?_ ?_ <;> clear h <;> intro h <;> cbv
                                                    · as_aux_lemma =>
                                                      refine R.callD h (fun x474 hx474 h2 => ?_)
                                                      clear h; have h := h2; clear h2
                                                      refine R.call' (w11 _ _ _ _ _ _ hx474) (by (first | rfl | (simp only [D.har, D.hcmp, D.hinb, D.hnt]; done) | (simp only [D.har, D.hcmp, D.hinb, D.hnt]; rfl))) ?_
                                                      clear hx474; cbv
                                                      refine R.cut' (by kernel_rfl) (by kernel_rfl) ?_
                                                      cbv
                                                      refine R.brD h (by (first | rfl | (simp only [D.har, D.hcmp, D.hinb, D.hnt]; done) | (simp only [D.har, D.hcmp, D.hinb, D.hnt]; rfl))) ?_ ?_ <;> clear h <;> intro h <;> cbv
                                                      · have e := ret_some h; clear h
                                                        have h := hFy415; rw [e] at h; clear e; try dsimp only at h
                                                        cbv
                                                        have e := inr_some h houts255; clear h
                                                        have h := hFs255; rw [e] at h; clear e; try dsimp only at h
                                                        cbv
                                                        have e := ret_some h; clear h
                                                        have h := hFy174; rw [e] at h; clear e; try dsimp only at h
                                                        cbv
                                                        have e := ret_some h; clear h
                                                        refine hK _ _ ?_
                                                        cbv
                                                        try (subst e; simp only [D.har, D.hcmp, D.hinb, D.hnt, and_self, and_true, true_and] <;> (repeat' apply And.intro) <;> rfl)
                                                      · as_aux_lemma =>
                                                        refine R.callD h (fun x475 hx475 h2 => ?_)
                                                        clear h; have h := h2; clear h2
                                                        refine R.call' (w13 _ _ _ hx475) (by (first | rfl | (simp only [D.har, D.hcmp, D.hinb, D.hnt]; done) | (simp only [D.har, D.hcmp, D.hinb, D.hnt]; rfl))) ?_
                                                        clear hx475; cbv
                                                        refine R.needD h (by (first | rfl | (simp only [D.har, D.hcmp, D.hinb, D.hnt]; done) | (simp only [D.har, D.hcmp, D.hinb, D.hnt]; rfl))) ?_
                                                        clear h; intro h; cbv
                                                        refine R.brD h (by (first | rfl | (simp only [D.har, D.hcmp, D.hinb, D.hnt]; done) | (simp only [D.har, D.hcmp, D.hinb, D.hnt]; rfl))) ?_ ?_ <;> clear h <;> intro h <;> cbv
                                                        · exact (none_some h).elim
                                                        · as_aux_lemma =>
                                                          refine R.brD h (by (first | rfl | (simp only [D.har, D.hcmp, D.hinb, D.hnt]; done) | (simp only [D.har, D.hcmp, D.hinb, D.hnt]; rfl))) ?_ ?_ <;> clear h <;> intro h <;> cbv
                                                          · exact (none_some h).elim
                                                          · as_aux_lemma =>
                                                            refine R.brD h (by (first | rfl | (simp only [D.har, D.hcmp, D.hinb, D.hnt]; done) | (simp only [D.har, D.hcmp, D.hinb, D.hnt]; rfl))) ?_ ?_ <;> clear h <;> intro h <;> cbv
                                                            · exact (none_some h).elim
                                                            · as_aux_lemma =>
                                                              refine R.brD h (by (first | rfl | (simp only [D.har, D.hcmp, D.hinb, D.hnt]; done) | (simp only [D.har, D.hcmp, D.hinb, D.hnt]; rfl))) ?_ ?_ <;> clear h <;> intro h <;> cbv
                                                              · exact (none_some h).elim
                                                              · as_aux_lemma =>
                                                                refine R.brD h (by (first | rfl | (simp only [D.har, D.hcmp, D.hinb, D.hnt]; done) | (simp only [D.har, D.hcmp, D.hinb, D.hnt]; rfl))) ?_ ?_ <;> clear h <;> intro h <;> cbv
                                                                · as_aux_lemma =>
                                                                  refine R.callD h (fun x476 hx476 h2 => ?_)
                                                                  clear h; have h := h2; clear h2
                                                                  refine R.call' (w11 _ _ _ _ _ _ hx476) (by (first | rfl | (simp only [D.har, D.hcmp, D.hinb, D.hnt]; done) | (simp only [D.har, D.hcmp, D.hinb, D.hnt]; rfl))) ?_
                                                                  clear hx476; cbv
                                                                  refine R.needD h (by (first | rfl | (simp only [D.har, D.hcmp, D.hinb, D.hnt]; done) | (simp only [D.har, D.hcmp, D.hinb, D.hnt]; rfl))) ?_
                                                                  clear h; intro h; cbv
                                                                  refine R.brD h (by (first | rfl | (simp only [D.har, D.hcmp, D.hinb, D.hnt]; done) | (simp only [D.har, D.hcmp, D.hinb, D.hnt]; rfl))) ?_ ?_ <;> clear h <;> intro h <;> cbv
                                                                  · exact (none_some h).elim
                                                                  · as_aux_lemma =>
                                                                    refine R.brD h (by (first | rfl | (simp only [D.har, D.hcmp, D.hinb, D.hnt]; done) | (simp only [D.har, D.hcmp, D.hinb, D.hnt]; rfl))) ?_ ?_ <;> clear h <;> intro h <;> cbv
                                                                    · exact (none_some h).elim
                                                                    · as_aux_lemma =>
                                                                      refine R.brD h (by (first | rfl | (simp only [D.har, D.hcmp, D.hinb, D.hnt]; done) | (simp only [D.har, D.hcmp, D.hinb, D.hnt]; rfl))) ?_ ?_ <;> clear h <;> intro h <;> cbv
                                                                      · exact (none_some h).elim
                                                                      · as_aux_lemma =>
                                                                        refine R.brD h (by (first | rfl | (simp only [D.har, D.hcmp, D.hinb, D.hnt]; done) | (simp only [D.har, D.hcmp, D.hinb, D.hnt]; rfl))) ?_ ?_ <;> clear h <;> intro h <;> cbv
                                                                        · exact (none_some h).elim
                                                                        · as_aux_lemma =>
                                                                          refine R.brD h (by (first | rfl | (simp only [D.har, D.hcmp, D.hinb, D.hnt]; done) | (simp only [D.har, D.hcmp, D.hinb, D.hnt]; rfl))) ?_ ?_ <;> clear h <;> intro h <;> cbv
                                                                          · as_aux_lemma =>
                                                                            refine R.callD h (fun x477 hx477 h2 => ?_)
                                                                            clear h; have h := h2; clear h2
                                                                            refine R.call' (w11 _ _ _ _ _ _ hx477) (by (first | rfl | (simp only [D.har, D.hcmp, D.hinb, D.hnt]; done) | (simp only [D.har, D.hcmp, D.hinb, D.hnt]; rfl))) ?_
                                                                            clear hx477; cbv
                                                                            refine R.needD h (by (first | rfl | (simp only [D.har, D.hcmp, D.hinb, D.hnt]; done) | (simp only [D.har, D.hcmp, D.hinb, D.hnt]; rfl))) ?_
                                                                            clear h; intro h; cbv
                                                                            refine R.brD h (by (first | rfl | (simp only [D.har, D.hcmp, D.hinb, D.hnt]; done) | (simp only [D.har, D.hcmp, D.hinb, D.hnt]; rfl))) ?_ ?_ <;> clear h <;> intro h <;> cbv
                                                                            · exact (none_some h).elim
                                                                            · as_aux_lemma =>
                                                                              refine R.brD h (by (first | rfl | (simp only [D.har, D.hcmp, D.hinb, D.hnt]; done) | (simp only [D.har, D.hcmp, D.hinb, D.hnt]; rfl))) ?_ ?_ <;> clear h <;> intro h <;> cbv
                                                                              · exact (none_some h).elim
                                                                              · as_aux_lemma =>
                                                                                refine R.brD h (by (first | rfl | (simp only [D.har, D.hcmp, D.hinb, D.hnt]; done) | (simp only [D.har, D.hcmp, D.hinb, D.hnt]; rfl))) ?_ ?_ <;> clear h <;> intro h <;> cbv
                                                                                · exact (none_some h).elim
                                                                                · as_aux_lemma =>
                                                                                  refine R.brD h (by (first | rfl | (simp only [D.har, D.hcmp, D.hinb, D.hnt]; done) | (simp only [D.har, D.hcmp, D.hinb, D.hnt]; rfl))) ?_ ?_ <;> clear h <;> intro h <;> cbv
                                                                                  · exact (none_some h).elim
                                                                                  · as_aux_lemma =>
                                                                                    refine R.brD h (by (first | rfl | (simp only [D.har, D.hcmp, D.hinb, D.hnt]; done) | (simp only [D.har, D.hcmp, D.hinb, D.hnt]; rfl))) ?_ ?_ <;> clear h <;> intro h <;> cbv
                                                                                    · as_aux_lemma =>
                                                                                      refine R.callD h (fun x478 hx478 h2 => ?_)
                                                                                      clear h; have h := h2; clear h2
                                                                                      refine R.call' (w11 _ _ _ _ _ _ hx478) (by (first | rfl | (simp only [D.har, D.hcmp, D.hinb, D.hnt]; done) | (simp only [D.har, D.hcmp, D.hinb, D.hnt]; rfl))) ?_
                                                                                      clear hx478; cbv
                                                                                      refine R.needD h (by (first | rfl | (simp only [D.har, D.hcmp, D.hinb, D.hnt]; done) | (simp only [D.har, D.hcmp, D.hinb, D.hnt]; rfl))) ?_
                                                                                      clear h; intro h; cbv
                                                                                      refine R.brD h (by (first | rfl | (simp only [D.har, D.hcmp, D.hinb, D.hnt]; done) | (simp only [D.har, D.hcmp, D.hinb, D.hnt]; rfl))) ?_ ?_ <;> clear h <;> intro h <;> cbv
                                                                                      · exact (none_some h).elim
                                                                                      · as_aux_lemma =>
                                                                                        refine R.brD h (by (first | rfl | (simp only [D.har, D.hcmp, D.hinb, D.hnt]; done) | (simp only [D.har, D.hcmp, D.hinb, D.hnt]; rfl))) ?_ ?_ <;> clear h <;> intro h <;> cbv
                                                                                        · exact (none_some h).elim
                                                                                        · as_aux_lemma =>
                                                                                          refine R.brD h (by (first | rfl | (simp only [D.har, D.hcmp, D.hinb, D.hnt]; done) | (simp only [D.har, D.hcmp, D.hinb, D.hnt]; rfl))) ?_ ?_ <;> clear h <;> intro h <;> cbv
                                                                                          · exact (none_some h).elim
                                                                                          · as_aux_lemma =>
                                                                                            refine R.brD h (by (first | rfl | (simp only [D.har, D.hcmp, D.hinb, D.hnt]; done) | (simp only [D.har, D.hcmp, D.hinb, D.hnt]; rfl))) ?_ ?_ <;> clear h <;> intro h <;> cbv
                                                                                            · exact (none_some h).elim
                                                                                            · refine R.brD h (by (first | rfl | (simp only [D.har, D.hcmp, D.hinb, D.hnt]; done) | (simp only [D.har, D.hcmp, D.hinb, D.hnt]; rfl))) ?_ ?_ <;> clear h <;> intro h <;> cbv
                                                                                              · refine R.callD h (fun x479 hx479 h2 => ?_)
                                                                                                clear h; have h := h2; clear h2
                                                                                                refine R.call' (w11 _ _ _ _ _ _ hx479) (by (first | rfl | (simp only [D.har, D.hcmp, D.hinb, D.hnt]; done) | (simp only [D.har, D.hcmp, D.hinb, D.hnt]; rfl))) ?_
                                                                                                clear hx479; cbv
                                                                                                refine R.brD h (by (first | rfl | (simp only [D.har, D.hcmp, D.hinb, D.hnt]; done) | (simp only [D.har, D.hcmp, D.hinb, D.hnt]; rfl))) ?_ ?_ <;> clear h <;> intro h <;> cbv
                                                                                                · have e := ret_some h; clear h
                                                                                                  have h := hFy415; rw [e] at h; clear e; try dsimp only at h
                                                                                                  cbv
                                                                                                  have e := inr_some h houts255; clear h
                                                                                                  have h := hFs255; rw [e] at h; clear e; try dsimp only at h
                                                                                                  cbv
                                                                                                  have e := ret_some h; clear h
                                                                                                  have h := hFy174; rw [e] at h; clear e; try dsimp only at h
                                                                                                  cbv
                                                                                                  have e := ret_some h; clear h
                                                                                                  refine hK _ _ ?_
                                                                                                  cbv
                                                                                                  try (subst e; simp only [D.har, D.hcmp, D.hinb, D.hnt, and_self, and_true, true_and] <;> (repeat' apply And.intro) <;> rfl)
                                                                                                · obtain ⟨s', e, hi⟩ := jn_some Sum.inl h
                                                                                                  refine hLy415 s' _ _ hi ⟨rfl, ?_, ?_, rfl, rfl⟩ <;> cbv <;> (try (subst e; simp only [D.har, D.hcmp, D.hinb, D.hnt, and_self, and_true, true_and] <;> (repeat' apply And.intro) <;> rfl))
                                                                                              · exact (none_some h).elim
                                                                                    · exact (none_some h).elim
                                                                          · exact (none_some h).elim
                                                                · exact (none_some h).elim
                                                    · exact (none_some h).elim
                                          · exact (none_some h).elim
                              · exact (none_some h).elim
                    · as_aux_lemma =>
                      refine R.callD h (fun x480 hx480 h2 => ?_)
                      clear h; have h := h2; clear h2
                      refine R.call' (w11 _ _ _ _ _ _ hx480) (by (first | rfl | (simp only [D.har, D.hcmp, D.hinb, D.hnt]; done) | (simp only [D.har, D.hcmp, D.hinb, D.hnt]; rfl))) ?_
                      clear hx480; cbv
                      refine R.needD h (by (first | rfl | (simp only [D.har, D.hcmp, D.hinb, D.hnt]; done) | (simp only [D.har, D.hcmp, D.hinb, D.hnt]; rfl))) ?_
                      clear h; intro h; cbv
                      refine R.brD h (by (first | rfl | (simp only [D.har, D.hcmp, D.hinb, D.hnt]; done) | (simp only [D.har, D.hcmp, D.hinb, D.hnt]; rfl))) ?_ ?_ <;> clear h <;> intro h <;> cbv
                      · exact (none_some h).elim
                      · as_aux_lemma =>
                        refine R.brD h (by (first | rfl | (simp only [D.har, D.hcmp, D.hinb, D.hnt]; done) | (simp only [D.har, D.hcmp, D.hinb, D.hnt]; rfl))) ?_ ?_ <;> clear h <;> intro h <;> cbv
                        · exact (none_some h).elim
                        · as_aux_lemma =>
                          refine R.brD h (by (first | rfl | (simp only [D.har, D.hcmp, D.hinb, D.hnt]; done) | (simp only [D.har, D.hcmp, D.hinb, D.hnt]; rfl))) ?_ ?_ <;> clear h <;> intro h <;> cbv
                          · exact (none_some h).elim
                          · as_aux_lemma =>
                            refine R.brD h (by (first | rfl | (simp only [D.har, D.hcmp, D.hinb, D.hnt]; done) | (simp only [D.har, D.hcmp, D.hinb, D.hnt]; rfl))) ?_ ?_ <;> clear h <;> intro h <;> cbv
                            · exact (none_some h).elim
                            · as_aux_lemma =>
                              refine R.brD h (by (first | rfl | (simp only [D.har, D.hcmp, D.hinb, D.hnt]; done) | (simp only [D.har, D.hcmp, D.hinb, D.hnt]; rfl))) ?_ ?_ <;> clear h <;> intro h <;> cbv
                              · exact (none_some h).elim
                              · as_aux_lemma =>
                                refine R.callD h (fun x481 hx481 h2 => ?_)
                                clear h; have h := h2; clear h2
                                refine R.call' (w12 _ _ _ _ hx481) (by (first | rfl | (simp only [D.har, D.hcmp, D.hinb, D.hnt]; done) | (simp only [D.har, D.hcmp, D.hinb, D.hnt]; rfl))) ?_
                                clear hx481; cbv
                                refine R.callD h (fun x482 hx482 h2 => ?_)
                                clear h; have h := h2; clear h2
                                refine R.call' (w12 _ _ _ _ hx482) (by (first | rfl | (simp only [D.har, D.hcmp, D.hinb, D.hnt]; done) | (simp only [D.har, D.hcmp, D.hinb, D.hnt]; rfl))) ?_
                                clear hx482; cbv
                                refine R.callD h (fun x483 hx483 h2 => ?_)
                                clear h; have h := h2; clear h2
                                refine R.call' (w11 _ _ _ _ _ _ hx483) (by (first | rfl | (simp only [D.har, D.hcmp, D.hinb, D.hnt]; done) | (simp only [D.har, D.hcmp, D.hinb, D.hnt]; rfl))) ?_
                                clear hx483; cbv
                                refine R.cut' (by kernel_rfl) (by kernel_rfl) ?_
                                cbv
                                refine R.callD h (fun x486 hx486 h2 => ?_)
                                clear h; have h := h2; clear h2
                                refine R.call' (w12 _ _ _ _ hx486) (by (first | rfl | (simp only [D.har, D.hcmp, D.hinb, D.hnt]; done) | (simp only [D.har, D.hcmp, D.hinb, D.hnt]; rfl))) ?_
                                clear hx486; cbv
                                refine R.callD h (fun x487 hx487 h2 => ?_)
                                clear h; have h := h2; clear h2
                                refine R.call' (w12 _ _ _ _ hx487) (by (first | rfl | (simp only [D.har, D.hcmp, D.hinb, D.hnt]; done) | (simp only [D.har, D.hcmp, D.hinb, D.hnt]; rfl))) ?_
                                clear hx487; cbv
                                refine R.brD h (by (first | rfl | (simp only [D.har, D.hcmp, D.hinb, D.hnt]; done) | (simp only [D.har, D.hcmp, D.hinb, D.hnt]; rfl))) ?_ ?_ <;> clear h <;> intro h <;> cbv
                                · have e := ret_some h; clear h
                                  have h := hFy415; rw [e] at h; clear e; try dsimp only at h
                                  cbv
                                  have e := inr_some h houts255; clear h
                                  have h := hFs255; rw [e] at h; clear e; try dsimp only at h
                                  cbv
                                  have e := ret_some h; clear h
                                  have h := hFy174; rw [e] at h; clear e; try dsimp only at h
                                  cbv
                                  have e := ret_some h; clear h
                                  refine hK _ _ ?_
                                  cbv
                                  try (subst e; simp only [D.har, D.hcmp, D.hinb, D.hnt, and_self, and_true, true_and] <;> (repeat' apply And.intro) <;> rfl)
                                · as_aux_lemma =>
                                  refine R.cut' (by kernel_rfl) (by kernel_rfl) ?_
                                  cbv
                                  refine R.needD h (by (first | rfl | (simp only [D.har, D.hcmp, D.hinb, D.hnt]; done) | (simp only [D.har, D.hcmp, D.hinb, D.hnt]; rfl))) ?_
                                  clear h; intro h; cbv
                                  refine R.brD h (by (first | rfl | (simp only [D.har, D.hcmp, D.hinb, D.hnt]; done) | (simp only [D.har, D.hcmp, D.hinb, D.hnt]; rfl))) ?_ ?_ <;> clear h <;> intro h <;> cbv
                                  · exact (none_some h).elim
                                  · as_aux_lemma =>
                                    refine R.brD h (by (first | rfl | (simp only [D.har, D.hcmp, D.hinb, D.hnt]; done) | (simp only [D.har, D.hcmp, D.hinb, D.hnt]; rfl))) ?_ ?_ <;> clear h <;> intro h <;> cbv
                                    · exact (none_some h).elim
                                    · as_aux_lemma =>
                                      refine R.brD h (by (first | rfl | (simp only [D.har, D.hcmp, D.hinb, D.hnt]; done) | (simp only [D.har, D.hcmp, D.hinb, D.hnt]; rfl))) ?_ ?_ <;> clear h <;> intro h <;> cbv
                                      · exact (none_some h).elim
                                      · as_aux_lemma =>
                                        refine R.brD h (by (first | rfl | (simp only [D.har, D.hcmp, D.hinb, D.hnt]; done) | (simp only [D.har, D.hcmp, D.hinb, D.hnt]; rfl))) ?_ ?_ <;> clear h <;> intro h <;> cbv
                                        · exact (none_some h).elim
                                        · as_aux_lemma =>
                                          refine R.brD h (by (first | rfl | (simp only [D.har, D.hcmp, D.hinb, D.hnt]; done) | (simp only [D.har, D.hcmp, D.hinb, D.hnt]; rfl))) ?_ ?_ <;> clear h <;> intro h <;> cbv
                                          · exact (none_some h).elim
                                          · as_aux_lemma =>
                                            refine R.needD h (by (first | rfl | (simp only [D.har, D.hcmp, D.hinb, D.hnt]; done) | (simp only [D.har, D.hcmp, D.hinb, D.hnt]; rfl))) ?_
                                            clear h; intro h; cbv
                                            refine R.brD h (by (first | rfl | (simp only [D.har, D.hcmp, D.hinb, D.hnt]; done) | (simp only [D.har, D.hcmp, D.hinb, D.hnt]; rfl))) ?_ ?_ <;> clear h <;> intro h <;> cbv
                                            · exact (none_some h).elim
                                            · as_aux_lemma =>
                                              refine R.brD h (by (first | rfl | (simp only [D.har, D.hcmp, D.hinb, D.hnt]; done) | (simp only [D.har, D.hcmp, D.hinb, D.hnt]; rfl))) ?_ ?_ <;> clear h <;> intro h <;> cbv
                                              · exact (none_some h).elim
                                              · as_aux_lemma =>
                                                refine R.brD h (by (first | rfl | (simp only [D.har, D.hcmp, D.hinb, D.hnt]; done) | (simp only [D.har, D.hcmp, D.hinb, D.hnt]; rfl))) ?_ ?_ <;> clear h <;> intro h <;> cbv
                                                · exact (none_some h).elim
                                                · as_aux_lemma =>
                                                  refine R.brD h (by (first | rfl | (simp only [D.har, D.hcmp, D.hinb, D.hnt]; done) | (simp only [D.har, D.hcmp, D.hinb, D.hnt]; rfl))) ?_ ?_ <;> clear h <;> intro h <;> cbv
                                                  · exact (none_some h).elim
                                                  · as_aux_lemma =>
                                                    refine R.brD h (by (first | rfl | (simp only [D.har, D.hcmp, D.hinb, D.hnt]; done) | (simp only [D.har, D.hcmp, D.hinb, D.hnt]; rfl))) ?_ ?_ <;> clear h <;> intro h <;> cbv
                                                    · exact (none_some h).elim
                                                    · as_aux_lemma =>
                                                      refine R.callD h (fun x488 hx488 h2 => ?_)
                                                      clear h; have h := h2; clear h2
                                                      refine R.call' (w11 _ _ _ _ _ _ hx488) (by (first | rfl | (simp only [D.har, D.hcmp, D.hinb, D.hnt]; done) | (simp only [D.har, D.hcmp, D.hinb, D.hnt]; rfl))) ?_
                                                      clear hx488; cbv
                                                      refine R.cut' (by kernel_rfl) (by kernel_rfl) ?_
                                                      cbv
                                                      refine R.brD h (by (first | rfl | (simp only [D.har, D.hcmp, D.hinb, D.hnt]; done) | (simp only [D.har, D.hcmp, D.hinb, D.hnt]; rfl))) ?_ ?_ <;> clear h <;> intro h <;> cbv
                                                      · have e := ret_some h; clear h
                                                        have h := hFy415; rw [e] at h; clear e; try dsimp only at h
                                                        cbv
                                                        have e := inr_some h houts255; clear h
                                                        have h := hFs255; rw [e] at h; clear e; try dsimp only at h
                                                        cbv
                                                        have e := ret_some h; clear h
                                                        have h := hFy174; rw [e] at h; clear e; try dsimp only at h
                                                        cbv
                                                        have e := ret_some h; clear h
                                                        refine hK _ _ ?_
                                                        cbv
                                                        try (subst e; simp only [D.har, D.hcmp, D.hinb, D.hnt, and_self, and_true, true_and] <;> (repeat' apply And.intro) <;> rfl)
                                                      · as_aux_lemma =>
                                                        refine R.callD h (fun x489 hx489 h2 => ?_)
                                                        clear h; have h := h2; clear h2
                                                        refine R.call' (w13 _ _ _ hx489) (by (first | rfl | (simp only [D.har, D.hcmp, D.hinb, D.hnt]; done) | (simp only [D.har, D.hcmp, D.hinb, D.hnt]; rfl))) ?_
                                                        clear hx489; cbv
                                                        refine R.needD h (by (first | rfl | (simp only [D.har, D.hcmp, D.hinb, D.hnt]; done) | (simp only [D.har, D.hcmp, D.hinb, D.hnt]; rfl))) ?_
                                                        clear h; intro h; cbv
                                                        refine R.brD h (by (first | rfl | (simp only [D.har, D.hcmp, D.hinb, D.hnt]; done) | (simp only [D.har, D.hcmp, D.hinb, D.hnt]; rfl))) ?_ ?_ <;> clear h <;> intro h <;> cbv
                                                        · exact (none_some h).elim
                                                        · as_aux_lemma =>
                                                          refine R.brD h (by (first | rfl | (simp only [D.har, D.hcmp, D.hinb, D.hnt]; done) | (simp only [D.har, D.hcmp, D.hinb, D.hnt]; rfl))) ?_ ?_ <;> clear h <;> intro h <;> cbv
                                                          · exact (none_some h).elim
                                                          · as_aux_lemma =>
                                                            refine R.brD h (by (first | rfl | (simp only [D.har, D.hcmp, D.hinb, D.hnt]; done) | (simp only [D.har, D.hcmp, D.hinb, D.hnt]; rfl))) ?_ ?_ <;> clear h <;> intro h <;> cbv
                                                            · exact (none_some h).elim
                                                            · as_aux_lemma =>
                                                              refine R.brD h (by (first | rfl | (simp only [D.har, D.hcmp, D.hinb, D.hnt]; done) | (simp only [D.har, D.hcmp, D.hinb, D.hnt]; rfl))) ?_ ?_ <;> clear h <;> intro h <;> cbv
                                                              · exact (none_some h).elim
                                                              · as_aux_lemma =>
                                                                refine R.brD h (by (first | rfl | (simp only [D.har, D.hcmp, D.hinb, D.hnt]; done) | (simp only [D.har, D.hcmp, D.hinb, D.hnt]; rfl))) ?_ ?_ <;> clear h <;> intro h <;> cbv
                                                                · exact (none_some h).elim
                                                                · as_aux_lemma =>
                                                                  refine R.callD h (fun x490 hx490 h2 => ?_)
                                                                  clear h; have h := h2; clear h2
                                                                  refine R.call' (w11 _ _ _ _ _ _ hx490) (by (first | rfl | (simp only [D.har, D.hcmp, D.hinb, D.hnt]; done) | (simp only [D.har, D.hcmp, D.hinb, D.hnt]; rfl))) ?_
                                                                  clear hx490; cbv
                                                                  refine R.needD h (by (first | rfl | (simp only [D.har, D.hcmp, D.hinb, D.hnt]; done) | (simp only [D.har, D.hcmp, D.hinb, D.hnt]; rfl))) ?_
                                                                  clear h; intro h; cbv
                                                                  refine R.brD h (by (first | rfl | (simp only [D.har, D.hcmp, D.hinb, D.hnt]; done) | (simp only [D.har, D.hcmp, D.hinb, D.hnt]; rfl))) ?_ ?_ <;> clear h <;> intro h <;> cbv
                                                                  · exact (none_some h).elim
                                                                  · as_aux_lemma =>
                                                                    refine R.brD h (by (first | rfl | (simp only [D.har, D.hcmp, D.hinb, D.hnt]; done) | (simp only [D.har, D.hcmp, D.hinb, D.hnt]; rfl))) ?_ ?_ <;> clear h <;> intro h <;> cbv
                                                                    · exact (none_some h).elim
                                                                    · as_aux_lemma =>
                                                                      refine R.brD h (by (first | rfl | (simp only [D.har, D.hcmp, D.hinb, D.hnt]; done) | (simp only [D.har, D.hcmp, D.hinb, D.hnt]; rfl))) ?_ ?_ <;> clear h <;> intro h <;> cbv
                                                                      · exact (none_some h).elim
                                                                      · as_aux_lemma =>
                                                                        refine R.brD h (by (first | rfl | (simp only [D.har, D.hcmp, D.hinb, D.hnt]; done) | (simp only [D.har, D.hcmp, D.hinb, D.hnt]; rfl))) ?_ ?_ <;> clear h <;> intro h <;> cbv
                                                                        · exact (none_some h).elim
                                                                        · as_aux_lemma =>
                                                                          refine R.brD h (by (first | rfl | (simp only [D.har, D.hcmp, D.hinb, D.hnt]; done) | (simp only [D.har, D.hcmp, D.hinb, D.hnt]; rfl))) ?_ ?_ <;> clear h <;> intro h <;> cbv
                                                                          · exact (none_some h).elim
                                                                          · as_aux_lemma =>
                                                                            refine R.callD h (fun x491 hx491 h2 => ?_)
                                                                            clear h; have h := h2; clear h2
                                                                            refine R.call' (w11 _ _ _ _ _ _ hx491) (by (first | rfl | (simp only [D.har, D.hcmp, D.hinb, D.hnt]; done) | (simp only [D.har, D.hcmp, D.hinb, D.hnt]; rfl))) ?_
                                                                            clear hx491; cbv
                                                                            refine R.needD h (by (first | rfl | (simp only [D.har, D.hcmp, D.hinb, D.hnt]; done) | (simp only [D.har, D.hcmp, D.hinb, D.hnt]; rfl))) ?_
                                                                            clear h; intro h; cbv
                                                                            refine R.brD h (by (first | rfl | (simp only [D.har, D.hcmp, D.hinb, D.hnt]; done) | (simp only [D.har, D.hcmp, D.hinb, D.hnt]; rfl))) ?_ ?_ <;> clear h <;> intro h <;> cbv
                                                                            · exact (none_some h).elim
                                                                            · as_aux_lemma =>
                                                                              refine R.brD h (by (first | rfl | (simp only [D.har, D.hcmp, D.hinb, D.hnt]; done) | (simp only [D.har, D.hcmp, D.hinb, D.hnt]; rfl))) ?_ ?_ <;> clear h <;> intro h <;> cbv
                                                                              · exact (none_some h).elim
                                                                              · as_aux_lemma =>
                                                                                refine R.brD h (by (first | rfl | (simp only [D.har, D.hcmp, D.hinb, D.hnt]; done) | (simp only [D.har, D.hcmp, D.hinb, D.hnt]; rfl))) ?_ ?_ <;> clear h <;> intro h <;> cbv
                                                                                · exact (none_some h).elim
                                                                                · as_aux_lemma =>
                                                                                  refine R.brD h (by (first | rfl | (simp only [D.har, D.hcmp, D.hinb, D.hnt]; done) | (simp only [D.har, D.hcmp, D.hinb, D.hnt]; rfl))) ?_ ?_ <;> clear h <;> intro h <;> cbv
                                                                                  · exact (none_some h).elim
                                                                                  · as_aux_lemma =>
                                                                                    refine R.brD h (by (first | rfl | (simp only [D.har, D.hcmp, D.hinb, D.hnt]; done) | (simp only [D.har, D.hcmp, D.hinb, D.hnt]; rfl))) ?_ ?_ <;> clear h <;> intro h <;> cbv
                                                                                    · exact (none_some h).elim
                                                                                    · as_aux_lemma =>
                                                                                      refine R.callD h (fun x492 hx492 h2 => ?_)
                                                                                      clear h; have h := h2; clear h2
                                                                                      refine R.call' (w11 _ _ _ _ _ _ hx492) (by (first | rfl | (simp only [D.har, D.hcmp, D.hinb, D.hnt]; done) | (simp only [D.har, D.hcmp, D.hinb, D.hnt]; rfl))) ?_
                                                                                      clear hx492; cbv
                                                                                      refine R.needD h (by (first | rfl | (simp only [D.har, D.hcmp, D.hinb, D.hnt]; done) | (simp only [D.har, D.hcmp, D.hinb, D.hnt]; rfl))) ?_
                                                                                      clear h; intro h; cbv
                                                                                      refine R.brD h (by (first | rfl | (simp only [D.har, D.hcmp, D.hinb, D.hnt]; done) | (simp only [D.har, D.hcmp, D.hinb, D.hnt]; rfl))) ?_ ?_ <;> clear h <;> intro h <;> cbv
                                                                                      · exact (none_some h).elim
                                                                                      · as_aux_lemma =>
                                                                                        refine R.brD h (by (first | rfl | (simp only [D.har, D.hcmp, D.hinb, D.hnt]; done) | (simp only [D.har, D.hcmp, D.hinb, D.hnt]; rfl))) ?_ ?_ <;> clear h <;> intro h <;> cbv
                                                                                        · exact (none_some h).elim
                                                                                        · as_aux_lemma =>
                                                                                          refine R.brD h (by (first | rfl | (simp only [D.har, D.hcmp, D.hinb, D.hnt]; done) | (simp only [D.har, D.hcmp, D.hinb, D.hnt]; rfl))) ?_ ?_ <;> clear h <;> intro h <;> cbv
                                                                                          · exact (none_some h).elim
                                                                                          · as_aux_lemma =>
                                                                                            refine R.brD h (by (first | rfl | (simp only [D.har, D.hcmp, D.hinb, D.hnt]; done) | (simp only [D.har, D.hcmp, D.hinb, D.hnt]; rfl))) ?_ ?_ <;> clear h <;> intro h <;> cbv
                                                                                            · exact (none_some h).elim
                                                                                            · refine R.brD h (by (first | rfl | (simp only [D.har, D.hcmp, D.hinb, D.hnt]; done) | (simp only [D.har, D.hcmp, D.hinb, D.hnt]; rfl))) ?_ ?_ <;> clear h <;> intro h <;> cbv
                                                                                              · exact (none_some h).elim
                                                                                              · refine R.callD h (fun x493 hx493 h2 => ?_)
                                                                                                clear h; have h := h2; clear h2
                                                                                                refine R.call' (w11 _ _ _ _ _ _ hx493) (by (first | rfl | (simp only [D.har, D.hcmp, D.hinb, D.hnt]; done) | (simp only [D.har, D.hcmp, D.hinb, D.hnt]; rfl))) ?_
                                                                                                clear hx493; cbv
                                                                                                refine R.brD h (by (first | rfl | (simp only [D.har, D.hcmp, D.hinb, D.hnt]; done) | (simp only [D.har, D.hcmp, D.hinb, D.hnt]; rfl))) ?_ ?_ <;> clear h <;> intro h <;> cbv
                                                                                                · have e := ret_some h; clear h
                                                                                                  have h := hFy415; rw [e] at h; clear e; try dsimp only at h
                                                                                                  cbv
                                                                                                  have e := inr_some h houts255; clear h
                                                                                                  have h := hFs255; rw [e] at h; clear e; try dsimp only at h
                                                                                                  cbv
                                                                                                  have e := ret_some h; clear h
                                                                                                  have h := hFy174; rw [e] at h; clear e; try dsimp only at h
                                                                                                  cbv
                                                                                                  have e := ret_some h; clear h
                                                                                                  refine hK _ _ ?_
                                                                                                  cbv
                                                                                                  try (subst e; simp only [D.har, D.hcmp, D.hinb, D.hnt, and_self, and_true, true_and] <;> (repeat' apply And.intro) <;> rfl)
                                                                                                · obtain ⟨s', e, hi⟩ := jn_some Sum.inl h
                                                                                                  refine hLy415 s' _ _ hi ⟨rfl, ?_, ?_, rfl, rfl⟩ <;> cbv <;> (try (subst e; simp only [D.har, D.hcmp, D.hinb, D.hnt, and_self, and_true, true_and] <;> (repeat' apply And.intro) <;> rfl))
          · clear h; have h := h2; clear h2; try dsimp only at h
            cbv
            obtain ⟨s', e, hi⟩ := inl_some h hins255
            refine hLs255 s' _ _ hi ⟨rfl, ?_, ?_, rfl, rfl⟩ <;> cbv <;> (try (subst e; simp only [D.har, D.hcmp, D.hinb, D.hnt, and_self, and_true, true_and] <;> (repeat' apply And.intro) <;> rfl))
        · have e := inr_some h houts255; clear h
          have h := hFs255; rw [e] at h; clear e; try dsimp only at h
          cbv
          obtain ⟨s', e, hi⟩ := jn_some Sum.inl h
          refine hLy174 s' _ _ hi ⟨rfl, ?_, ?_, rfl, rfl⟩ <;> cbv <;> (try (subst e; simp only [D.har, D.hcmp, D.hinb, D.hnt, and_self, and_true, true_and] <;> (repeat' apply And.intro) <;> rfl))
      · clear h; have h := h2; clear h2; try dsimp only at h
        cbv
        refine R.callD h (fun x499 hx499 h2 => ?_)
        clear h; have h := h2; clear h2
        refine R.call' (w11 _ _ _ _ _ _ hx499) (by (first | rfl | (simp only [D.har, D.hcmp, D.hinb, D.hnt]; done) | (simp only [D.har, D.hcmp, D.hinb, D.hnt]; rfl))) ?_
        clear hx499; cbv
        refine R.callD h (fun x500 hx500 h2 => ?_)
        clear h; have h := h2; clear h2
        refine R.call' (w14 _ _ _ _ _ _ _ _ hx500) (by (first | rfl | (simp only [D.har, D.hcmp, D.hinb, D.hnt]; done) | (simp only [D.har, D.hcmp, D.hinb, D.hnt]; rfl))) ?_
        clear hx500; cbv
        refine R.cut' (by kernel_rfl) (by kernel_rfl) ?_
        cbv
        refine R.brD h (by (first | rfl | (simp only [D.har, D.hcmp, D.hinb, D.hnt]; done) | (simp only [D.har, D.hcmp, D.hinb, D.hnt]; rfl))) ?_ ?_ <;> clear h <;> intro h <;> cbv
        · refine R.callD h (fun x503 hx503 h2 => ?_)
          clear h; have h := h2; clear h2
          refine R.call' (w12 _ _ _ _ hx503) (by (first | rfl | (simp only [D.har, D.hcmp, D.hinb, D.hnt]; done) | (simp only [D.har, D.hcmp, D.hinb, D.hnt]; rfl))) ?_
          clear hx503; cbv
          refine R.callD h (fun x504 hx504 h2 => ?_)
          clear h; have h := h2; clear h2
          refine R.call' (w12 _ _ _ _ hx504) (by (first | rfl | (simp only [D.har, D.hcmp, D.hinb, D.hnt]; done) | (simp only [D.har, D.hcmp, D.hinb, D.hnt]; rfl))) ?_
          clear hx504; cbv
          have e := ret_some h; clear h
          refine hK _ _ ?_
          cbv
          try (subst e; simp only [D.har, D.hcmp, D.hinb, D.hnt, and_self, and_true, true_and] <;> (repeat' apply And.intro) <;> rfl)
        · have e := ret_some h; clear h
          refine hK _ _ ?_
          cbv
          try (subst e; simp only [D.har, D.hcmp, D.hinb, D.hnt, and_self, and_true, true_and] <;> (repeat' apply And.intro) <;> rfl)
end Go.Proofs.Ytjcabmhnekcbgaa

end
section
/- The one statement over its function that the law BitsRing comes to. Conditions: none. -/
-- Told by a program of this seat's session. Not trusted: Lean checks it.

namespace Go.Proofs.Ytjcabmhnekcbgaa
open Go.Ab Go.RowKit
def BitsRing.Claim : Prop := ∀ (x0 : (Int × Bool)) (x1 : (Int × Bool)) (x2 : (Int × (Int × Int))), (fun x : (Int × Bool) => (fun n : Int => (Lit.int .i64 n).wf = true) x.1 ∧ (fun _ : Bool => True) x.2) x0 → (fun x : (Int × Bool) => (fun n : Int => (Lit.int .i64 n).wf = true) x.1 ∧ (fun _ : Bool => True) x.2) x1 → (fun x : Int × (Int × Int) => (fun n : Int => (Lit.int .i64 n).wf = true) x.1 ∧ ((fun n : Int => (Lit.int .i64 n).wf = true) x.2.1 ∧ (fun n : Int => (Lit.int .i64 n).wf = true) x.2.2)) x2 → Ab.Fn Try.prog TT 3 [.agg [.i .i64 x0.1, .b x0.2], .agg [.i .i64 x1.1, .b x1.2], .agg [.i .i64 x2.1, .i .i64 x2.2.1, .i .i64 x2.2.2]] (.b true) []
end Go.Proofs.Ytjcabmhnekcbgaa
end
section
/- The law BitsRing by the calculus. Conditions: none. -/

namespace Go.Proofs.Ytjcabmhnekcbgaa
open Go.Ab Go.RowKit

def opv (o z : Int) (b : Bool) (v u : Int) : Int := wT (pz z) (pb z b) (fop o (wT (pz z) (pb z b) (wT z b v)) (wT (pz z) (pb z b) (wT z b u)))
theorem opv_i64 (o z : Int) (b : Bool) (v u : Int) : I64 (opv o z b v u) := wT_i64 _ _
theorem s14s {o : Int} (ho : Rop o) {z : Int} (b : Bool) {v u : Int} (hz : OkZ z) (hv : I64 v) (hu : I64 u) : d14 o z b v z b u = some (pz z, pb z b, opv o z b v u, 0) := by
  rw [s14 ho b b hz hz hv hu, (us_self z b).1, (us_self z b).2]; rfl
theorem s11 {o : Int} (ho : Rop o) {z : Int} (b : Bool) {v u : Int} (hz : OkZ z) (hv : I64 v) (hu : I64 u) : d11 o z b v u = some (pz z, pb z b, opv o z b v u) := by
  unfold d11; rw [s14s ho b hz hv hu]; rfl
theorem opv_mod {o : Int} (ho : Rop o) {z t : Int} (b : Bool) (v u : Int) (hz : OkZ z) (ht : OkZ t) (hl : t ≤ z) : opv o z b v u % md t = fop o v u % md t := by
  have hp := pz_ok hz
  have h1 := pz_ge hz
  have e : ∀ x, wT (pz z) (pb z b) (wT z b x) % md t = x % md t := fun x => by
    rw [mod_le ht hp (by omega) (wT_mod hp _ _), mod_le ht hz hl (wT_mod hz _ _)]
  unfold opv
  rw [mod_le ht hp (by omega) (wT_mod hp _ _)]
  exact fop_congr ho ht (e v) (e u)
theorem opv_modp {o : Int} (ho : Rop o) {z : Int} (b : Bool) (v u : Int) (hz : OkZ z) (hb : 4 ≤ z) : opv o z b v u % md z = fop o v u % md z := opv_mod ho b v u hz hz (Int.le_refl _)
theorem k1 {o : Int} (ho : Rop o) {z t : Int} (b c : Bool) (v u : Int) (hz : OkZ z) (ht : OkZ t) (hl : t ≤ z) : wT t c (opv o z b v u) = wT t c (opv o t c (wT t c v) (wT t c u)) := by
  refine wT_congr ht c ?_
  rw [opv_mod ho b v u hz ht hl, opv_mod ho c _ _ ht ht (Int.le_refl _)]
  exact fop_congr ho ht (wT_mod ht c v).symm (wT_mod ht c u).symm
theorem k2 {o : Int} (ho : Rop o) (h2 : o ≠ 2) (z : Int) (b : Bool) (v u : Int) : opv o z b v u = opv o z b u v := by
  unfold opv; rw [fop_comm ho h2]
theorem k3 {o : Int} (ho : Rop o) (h2 : o ≠ 2) {z : Int} (b : Bool) (v u x : Int) (hz : OkZ z) (h4 : 4 ≤ z) : opv o z b (opv o z b v u) x = opv o z b v (opv o z b u x) := by
  have e1 := pz_id h4
  have e : ∀ y, wT z b (wT z b y) % md z = y % md z := fun y => by rw [wT_mod hz, wT_mod hz]
  have key : fop o (opv o z b v u) x % md z = fop o v (opv o z b u x) % md z := by
    rw [fop_congr ho hz (opv_mod ho b v u hz hz (Int.le_refl _)) (rfl : x % md z = x % md z), mod_64 hz (fop_assoc ho h2 v u x)]
    exact fop_congr ho hz rfl (opv_mod ho b u x hz hz (Int.le_refl _)).symm
  rw [show opv o z b (opv o z b v u) x = wT (pz z) (pb z b) (fop o (wT (pz z) (pb z b) (wT z b (opv o z b v u))) (wT (pz z) (pb z b) (wT z b x))) from rfl,
    show opv o z b v (opv o z b u x) = wT (pz z) (pb z b) (fop o (wT (pz z) (pb z b) (wT z b v)) (wT (pz z) (pb z b) (wT z b (opv o z b u x)))) from rfl, e1, pb_id h4]
  refine wT_congr hz b ?_
  rw [fop_congr ho hz (e _) (e _), fop_congr ho hz (e v) (e (opv o z b u x)), key]
theorem BitsRing.b0 {z : Int} (b : Bool) {t : Int} (c : Bool) {l0 l1 l2 : Int} (hz : OkZ z) (ht : OkZ t) (hl : t ≤ z) (h0 : I64 l0) (h1 : I64 l1) (h2 : I64 l2) : d3_b1 z b t c l0 l1 l2 0 = some (.inl 1) := by
  have ho : Rop 1 := .inl rfl
  have hi : Inb 0 (Int.ofNat 6) := by decide
  have hp := pz_ok hz
  have h4 := pz_4 hz
  have a1 := s11 ho b hz h0 h1
  have a2 := s11 ho c ht (wT_i64 c (z := t) l0) (wT_i64 c (z := t) l1)
  have a3 := s11 ho b hz h1 h0
  have a4 := s11 ho (pb z b) hp h0 h1
  have a5 := s11 ho (pb z b) hp h1 h2
  have a6 := s11 ho (pb z b) hp (opv_i64 1 (pz z) (pb z b) l0 l1) h2
  have a7 := s11 ho (pb z b) hp h0 (opv_i64 1 (pz z) (pb z b) l1 l2)
  have q1 := s12 t c h0
  have q2 := s12 t c h1
  have q3 := s12 t c (opv_i64 1 z b l0 l1)
  have q4 := s12 t c (opv_i64 1 t c (wT t c l0) (wT t c l1))
  have q5 := s13 z b
  rw [if_pos ht] at q1 q2 q3 q4
  rw [if_pos hz] at q5
  have r1 := k1 ho b c l0 l1 hz ht hl
  have r2 := k2 ho (by decide) z b l0 l1
  have r3 := k3 ho (by decide) (pb z b) l0 l1 l2 hp h4
  unfold d3_b1
  simp only [show cmpLit .lss 0 6 = true from rfl, show cmpLit .eql 0 (Int.ofNat 0) = true from rfl, if_pos hi, if_true, Bool.false_eq_true, if_false, a1, a2, a3, a4, a5, a6, a7, q1, q2, q3, q4, q5, Option.bind_some, c_neq]
  rw [← r1, r3, ← r2]
  simp
  rfl
theorem BitsRing.b1 {z : Int} (b : Bool) {t : Int} (c : Bool) {l0 l1 l2 : Int} (hz : OkZ z) (ht : OkZ t) (hl : t ≤ z) (h0 : I64 l0) (h1 : I64 l1) (h2 : I64 l2) : d3_b1 z b t c l0 l1 l2 1 = some (.inl 2) := by
  have ho : Rop 2 := .inr (.inl rfl)
  have hi : Inb 1 (Int.ofNat 6) := by decide
  have hp := pz_ok hz
  have h4 := pz_4 hz
  have a1 := s11 ho b hz h0 h1
  have a2 := s11 ho c ht (wT_i64 c (z := t) l0) (wT_i64 c (z := t) l1)
  have a3 := s11 ho b hz h1 h0
  have a4 := s11 ho (pb z b) hp h0 h1
  have a5 := s11 ho (pb z b) hp h1 h2
  have a6 := s11 ho (pb z b) hp (opv_i64 2 (pz z) (pb z b) l0 l1) h2
  have a7 := s11 ho (pb z b) hp h0 (opv_i64 2 (pz z) (pb z b) l1 l2)
  have q1 := s12 t c h0
  have q2 := s12 t c h1
  have q3 := s12 t c (opv_i64 2 z b l0 l1)
  have q4 := s12 t c (opv_i64 2 t c (wT t c l0) (wT t c l1))
  have q5 := s13 z b
  rw [if_pos ht] at q1 q2 q3 q4
  rw [if_pos hz] at q5
  have r1 := k1 ho b c l0 l1 hz ht hl
  unfold d3_b1
  simp only [show cmpLit .lss 1 6 = true from rfl, show cmpLit .eql 1 (Int.ofNat 0) = false from rfl, show cmpLit .eql 1 (Int.ofNat 1) = true from rfl, if_pos hi, if_true, Bool.false_eq_true, if_false, a1, a2, a3, a4, a5, a6, a7, q1, q2, q3, q4, q5, Option.bind_some, c_neq]
  rw [← r1]
  simp
  rfl
theorem BitsRing.b2 {z : Int} (b : Bool) {t : Int} (c : Bool) {l0 l1 l2 : Int} (hz : OkZ z) (ht : OkZ t) (hl : t ≤ z) (h0 : I64 l0) (h1 : I64 l1) (h2 : I64 l2) : d3_b1 z b t c l0 l1 l2 2 = some (.inl 3) := by
  have ho : Rop 3 := .inr (.inr (.inl rfl))
  have hi : Inb 2 (Int.ofNat 6) := by decide
  have hp := pz_ok hz
  have h4 := pz_4 hz
  have a1 := s11 ho b hz h0 h1
  have a2 := s11 ho c ht (wT_i64 c (z := t) l0) (wT_i64 c (z := t) l1)
  have a3 := s11 ho b hz h1 h0
  have a4 := s11 ho (pb z b) hp h0 h1
  have a5 := s11 ho (pb z b) hp h1 h2
  have a6 := s11 ho (pb z b) hp (opv_i64 3 (pz z) (pb z b) l0 l1) h2
  have a7 := s11 ho (pb z b) hp h0 (opv_i64 3 (pz z) (pb z b) l1 l2)
  have q1 := s12 t c h0
  have q2 := s12 t c h1
  have q3 := s12 t c (opv_i64 3 z b l0 l1)
  have q4 := s12 t c (opv_i64 3 t c (wT t c l0) (wT t c l1))
  have q5 := s13 z b
  rw [if_pos ht] at q1 q2 q3 q4
  rw [if_pos hz] at q5
  have r1 := k1 ho b c l0 l1 hz ht hl
  have r2 := k2 ho (by decide) z b l0 l1
  have r3 := k3 ho (by decide) (pb z b) l0 l1 l2 hp h4
  unfold d3_b1
  simp only [show cmpLit .lss 2 6 = true from rfl, show cmpLit .eql 2 (Int.ofNat 0) = false from rfl, show cmpLit .eql 2 (Int.ofNat 1) = false from rfl, show cmpLit .eql 2 (Int.ofNat 2) = true from rfl, if_pos hi, if_true, Bool.false_eq_true, if_false, a1, a2, a3, a4, a5, a6, a7, q1, q2, q3, q4, q5, Option.bind_some, c_neq]
  rw [← r1, r3, ← r2]
  simp
  rfl
theorem BitsRing.b3 {z : Int} (b : Bool) {t : Int} (c : Bool) {l0 l1 l2 : Int} (hz : OkZ z) (ht : OkZ t) (hl : t ≤ z) (h0 : I64 l0) (h1 : I64 l1) (h2 : I64 l2) : d3_b1 z b t c l0 l1 l2 3 = some (.inl 4) := by
  have ho : Rop 6 := .inr (.inr (.inr (.inl rfl)))
  have hi : Inb 3 (Int.ofNat 6) := by decide
  have hp := pz_ok hz
  have h4 := pz_4 hz
  have a1 := s11 ho b hz h0 h1
  have a2 := s11 ho c ht (wT_i64 c (z := t) l0) (wT_i64 c (z := t) l1)
  have a3 := s11 ho b hz h1 h0
  have a4 := s11 ho (pb z b) hp h0 h1
  have a5 := s11 ho (pb z b) hp h1 h2
  have a6 := s11 ho (pb z b) hp (opv_i64 6 (pz z) (pb z b) l0 l1) h2
  have a7 := s11 ho (pb z b) hp h0 (opv_i64 6 (pz z) (pb z b) l1 l2)
  have q1 := s12 t c h0
  have q2 := s12 t c h1
  have q3 := s12 t c (opv_i64 6 z b l0 l1)
  have q4 := s12 t c (opv_i64 6 t c (wT t c l0) (wT t c l1))
  have q5 := s13 z b
  rw [if_pos ht] at q1 q2 q3 q4
  rw [if_pos hz] at q5
  have r1 := k1 ho b c l0 l1 hz ht hl
  have r2 := k2 ho (by decide) z b l0 l1
  have r3 := k3 ho (by decide) (pb z b) l0 l1 l2 hp h4
  unfold d3_b1
  simp only [show cmpLit .lss 3 6 = true from rfl, show cmpLit .eql 3 (Int.ofNat 0) = false from rfl, show cmpLit .eql 3 (Int.ofNat 1) = false from rfl, show cmpLit .eql 3 (Int.ofNat 2) = false from rfl, show cmpLit .eql 3 (Int.ofNat 3) = true from rfl, if_pos hi, if_true, Bool.false_eq_true, if_false, a1, a2, a3, a4, a5, a6, a7, q1, q2, q3, q4, q5, Option.bind_some, c_neq]
  rw [← r1, r3, ← r2]
  simp
  rfl
theorem BitsRing.b4 {z : Int} (b : Bool) {t : Int} (c : Bool) {l0 l1 l2 : Int} (hz : OkZ z) (ht : OkZ t) (hl : t ≤ z) (h0 : I64 l0) (h1 : I64 l1) (h2 : I64 l2) : d3_b1 z b t c l0 l1 l2 4 = some (.inl 5) := by
  have ho : Rop 7 := .inr (.inr (.inr (.inr (.inl rfl))))
  have hi : Inb 4 (Int.ofNat 6) := by decide
  have hp := pz_ok hz
  have h4 := pz_4 hz
  have a1 := s11 ho b hz h0 h1
  have a2 := s11 ho c ht (wT_i64 c (z := t) l0) (wT_i64 c (z := t) l1)
  have a3 := s11 ho b hz h1 h0
  have a4 := s11 ho (pb z b) hp h0 h1
  have a5 := s11 ho (pb z b) hp h1 h2
  have a6 := s11 ho (pb z b) hp (opv_i64 7 (pz z) (pb z b) l0 l1) h2
  have a7 := s11 ho (pb z b) hp h0 (opv_i64 7 (pz z) (pb z b) l1 l2)
  have q1 := s12 t c h0
  have q2 := s12 t c h1
  have q3 := s12 t c (opv_i64 7 z b l0 l1)
  have q4 := s12 t c (opv_i64 7 t c (wT t c l0) (wT t c l1))
  have q5 := s13 z b
  rw [if_pos ht] at q1 q2 q3 q4
  rw [if_pos hz] at q5
  have r1 := k1 ho b c l0 l1 hz ht hl
  have r2 := k2 ho (by decide) z b l0 l1
  have r3 := k3 ho (by decide) (pb z b) l0 l1 l2 hp h4
  unfold d3_b1
  simp only [show cmpLit .lss 4 6 = true from rfl, show cmpLit .eql 4 (Int.ofNat 0) = false from rfl, show cmpLit .eql 4 (Int.ofNat 1) = false from rfl, show cmpLit .eql 4 (Int.ofNat 2) = false from rfl, show cmpLit .eql 4 (Int.ofNat 3) = false from rfl, show cmpLit .eql 4 (Int.ofNat 4) = true from rfl, if_pos hi, if_true, Bool.false_eq_true, if_false, a1, a2, a3, a4, a5, a6, a7, q1, q2, q3, q4, q5, Option.bind_some, c_neq]
  rw [← r1, r3, ← r2]
  simp
  rfl
theorem BitsRing.b5 {z : Int} (b : Bool) {t : Int} (c : Bool) {l0 l1 l2 : Int} (hz : OkZ z) (ht : OkZ t) (hl : t ≤ z) (h0 : I64 l0) (h1 : I64 l1) (h2 : I64 l2) : d3_b1 z b t c l0 l1 l2 5 = some (.inl 6) := by
  have ho : Rop 8 := .inr (.inr (.inr (.inr (.inr rfl))))
  have hi : Inb 5 (Int.ofNat 6) := by decide
  have hp := pz_ok hz
  have h4 := pz_4 hz
  have a1 := s11 ho b hz h0 h1
  have a2 := s11 ho c ht (wT_i64 c (z := t) l0) (wT_i64 c (z := t) l1)
  have a3 := s11 ho b hz h1 h0
  have a4 := s11 ho (pb z b) hp h0 h1
  have a5 := s11 ho (pb z b) hp h1 h2
  have a6 := s11 ho (pb z b) hp (opv_i64 8 (pz z) (pb z b) l0 l1) h2
  have a7 := s11 ho (pb z b) hp h0 (opv_i64 8 (pz z) (pb z b) l1 l2)
  have q1 := s12 t c h0
  have q2 := s12 t c h1
  have q3 := s12 t c (opv_i64 8 z b l0 l1)
  have q4 := s12 t c (opv_i64 8 t c (wT t c l0) (wT t c l1))
  have q5 := s13 z b
  rw [if_pos ht] at q1 q2 q3 q4
  rw [if_pos hz] at q5
  have r1 := k1 ho b c l0 l1 hz ht hl
  have r2 := k2 ho (by decide) z b l0 l1
  have r3 := k3 ho (by decide) (pb z b) l0 l1 l2 hp h4
  unfold d3_b1
  simp only [show cmpLit .lss 5 6 = true from rfl, show cmpLit .eql 5 (Int.ofNat 0) = false from rfl, show cmpLit .eql 5 (Int.ofNat 1) = false from rfl, show cmpLit .eql 5 (Int.ofNat 2) = false from rfl, show cmpLit .eql 5 (Int.ofNat 3) = false from rfl, show cmpLit .eql 5 (Int.ofNat 4) = false from rfl, if_pos hi, if_true, Bool.false_eq_true, if_false, a1, a2, a3, a4, a5, a6, a7, q1, q2, q3, q4, q5, Option.bind_some, c_neq]
  rw [← r1, r3, ← r2]
  simp
  rfl
theorem BitsRing.it {z : Int} (b : Bool) {t : Int} (c : Bool) {l0 l1 l2 : Int} (hz : OkZ z) (ht : OkZ t) (hl : t ≤ z) (h0 : I64 l0) (h1 : I64 l1) (h2 : I64 l2) : iter (d3_b1 z b t c l0 l1 l2) 0 = some (.inr ()) := by
  rw [iter_inl (b0 b c hz ht hl h0 h1 h2), iter_inl (b1 b c hz ht hl h0 h1 h2), iter_inl (b2 b c hz ht hl h0 h1 h2), iter_inl (b3 b c hz ht hl h0 h1 h2), iter_inl (b4 b c hz ht hl h0 h1 h2), iter_inl (b5 b c hz ht hl h0 h1 h2)]
  refine iter_inr ?_
  unfold d3_b1
  rw [if_neg (by decide)]
theorem BitsRing.d3_true (z : Int) (b : Bool) (t : Int) (c : Bool) {l0 l1 l2 : Int} (h0 : I64 l0) (h1 : I64 l1) (h2 : I64 l2) : d3 z b t c l0 l1 l2 = some true := by
  unfold d3
  simp only [s9, s10, Option.bind_some, notB', c_neq, c_gtr]
  by_cases hz : OkZ z
  · by_cases ht : OkZ t
    · by_cases hl : z < t
      · simp [hz, ht, hl]
      · have hl' : t ≤ z := by omega
        have hp := pz_ok hz
        have h4 := pz_4 hz
        have a1 := s11 (.inl rfl : Rop 1) b hz h0 h1
        have e1 : uz (pz z) z = pz z := by unfold uz; rw [pz_pz]; simp
        have e2 : ub (pz z) (pb z b) z b = pb z b := by unfold ub; rw [pz_pz, pb_pb]; simp
        have a2 := s14 (.inr (.inl rfl) : Rop 2) (pb z b) b hp hz (opv_i64 1 z b l0 l1) h1
        rw [e1, e2] at a2
        have q1 := s12 z b h0
        have q2 := s12 (pz z) (pb z b) (wT_i64 b (z := z) l0)
        rw [if_pos hz] at q1
        rw [if_pos hp] at q2
        have key : wT (pz z) (pb z b) (fop 2 (wT (pz z) (pb z b) (wT (pz z) (pb z b) (opv 1 z b l0 l1))) (wT (pz z) (pb z b) (wT z b l1))) = wT (pz z) (pb z b) (wT z b l0) := by
          refine wT_congr hp _ ?_
          have w : ∀ x, wT (pz z) (pb z b) x % md (pz z) = x % md (pz z) := fun x => wT_mod hp _ x
          have g1 : wT (pz z) (pb z b) (wT (pz z) (pb z b) (opv 1 z b l0 l1)) % md (pz z) = fop 1 (wT (pz z) (pb z b) (wT z b l0)) (wT (pz z) (pb z b) (wT z b l1)) % md (pz z) := by
            rw [w, w]; exact w _
          rw [fop_congr (.inr (.inl rfl)) hp g1 (w _), fop_congr (.inr (.inl rfl)) hp (fop_congr (.inl rfl) hp (w _) (w _)) rfl]
          refine mod_64 hp ?_
          rw [f2, f1, wk_mod]
          have := wk_mod (wT z b l0 + wT z b l1)
          omega
        simp only [hz, ht, hl, it b c hz ht hl' h0 h1 h2, a1, a2, q1, q2, key, Option.bind_some, if_true, c_eql]
        simp
    · simp [hz, ht]
  · simp [hz]
theorem i64_wf {n : Int} (h : (Lit.int .i64 n).wf = true) : I64 n := by
  simp [Lit.wf, IntKind.min, IntKind.max, IntKind.bits, IntKind.signed] at h
  unfold I64
  omega
theorem BitsRing.pure : BitsRing.Claim := by
  intro x0 x1 x2 h0 h1 h2
  have k : ∀ n : Int, (Lit.int .i64 n).wf = true → I64 n := fun n h => i64_wf h
  exact w3 _ _ _ _ _ _ _ true (BitsRing.d3_true _ _ _ _ (k _ h2.1) (k _ h2.2.1) (k _ h2.2.2))
end Go.Proofs.Ytjcabmhnekcbgaa
end
section
/- BitsRing: the law's call returns true for every input, and its arguments read afterwards as_ before. Conditions: none. -/
-- Told by a program of this seat's session. Not trusted: Lean checks it.

namespace Go.Proofs.Ytjcabmhnekcbgaa.bitsRing
open Go.ChangeShapes Go.WideShapes Go.ChangeAt Go.RowKit Go.Ab Go.Proofs.Ytjcabmhnekcbgaa
open Go.ChangeMaps (open_string shut_string)
theorem own : ownKnob Try.prog.godebug = none := by kernel_rfl
theorem laidOut : laidOutB Try.prog = true := by kernel_rfl
set_option maxRecDepth 100000 in
set_option maxHeartbeats 8000000 in
theorem lifted (os : Os) (started : os.Started) (H : Type) (enc : TypeId × Value → H) :
    ReturnsInHanded {} Try.checked os 3 .any (Rows.bitsRingSpec.pre6 enc Try.prog Try.f3 Rows.bitsRingRow.domain false) (Rows.bitsRingSpec.post enc Try.prog Try.f3 false true false false) := by
  refine returnsInHanded_of_change_sized (C := Try.checked) own started (by kernel_rfl) Try.func3
    (ChangeSpec.witness6 (enc := enc) (C := Try.checked) false ⟨#[], #[.agg #[.int .i64 0, .bool false], .agg #[.int .i64 0, .bool false], .agg #[.int .i64 0, .int .i64 0, .int .i64 0]], []⟩ 8 (by kernel_rfl) (by kernel_rfl) (by kernel_rfl) (by kernel_rfl)) ?_
  intro W base args ds gs before hval0 hW hcnd hsz0 _
  have hval : ∀ (j : Nat) t v, Try.f3.params[j]? = some t → args[j]? = some v → Value.okWide Try.prog W .any base t v := hval0
  have hW' := hW
  obtain ⟨p, q, hA0, hV, rfl, hfz, hnd⟩ := hW
  have hA : DataW.TrodAll enc Try.prog W 0 (fun _ => true) true Try.f3.params.toList args.toList ds p := hA0
  rw [Try.params3] at hA hval
  obtain ⟨v0, vs0, d0, ds0, p0, q0, hargs, rfl, rfl, h0, r0⟩ := trodAll_cons hA
  obtain ⟨v1, vs1, d1, ds1, p1, q1, rfl, rfl, rfl, h1, r1⟩ := trodAll_cons r0
  obtain ⟨v2, vs2, d2, ds2, p2, q2, rfl, rfl, rfl, h2, r2⟩ := trodAll_cons r1
  obtain ⟨rfl, rfl, rfl⟩ := trodAll_nil r2
  obtain rfl : args = #[v0, v1, v2] := by cases args; simp_all
  obtain ⟨rfl, rfl⟩ := trodVars_none hV
  have k0 := h0
  have lt0 : ∀ x ∈ p0, x.block < W.heap.size := by obtain ⟨m, hm⟩ := k0; exact DataW.trod_lt m _ _ _ hm
  obtain ⟨cs0, rfl, sz0⟩ := okWide_struct Try.underlying23 (hval 0 23 v0 rfl rfl)
  obtain ⟨x0, ra0, rb0, _, ok0⟩ := h0.elim fun fuel hf => ((OpV.struct tok (te := te23) (by kernel_rfl) rfl (by kernel_rfl) (OpAt.cons rfl (by kernel_rfl) (OpV.int tok (e := te3) (by kernel_rfl) rfl) (OpAt.last rfl (by kernel_rfl) (OpV.bool tok (e := te4) (by kernel_rfl) rfl)))) : OpV TT enc Try.prog W 23 _ _ _) _ _ _ hf
  have k1 := h1
  have lt1 : ∀ x ∈ p1, x.block < W.heap.size := by obtain ⟨m, hm⟩ := k1; exact DataW.trod_lt m _ _ _ hm
  obtain ⟨cs1, rfl, sz1⟩ := okWide_struct Try.underlying23 (hval 1 23 v1 rfl rfl)
  obtain ⟨x1, ra1, rb1, _, ok1⟩ := h1.elim fun fuel hf => ((OpV.struct tok (te := te23) (by kernel_rfl) rfl (by kernel_rfl) (OpAt.cons rfl (by kernel_rfl) (OpV.int tok (e := te3) (by kernel_rfl) rfl) (OpAt.last rfl (by kernel_rfl) (OpV.bool tok (e := te4) (by kernel_rfl) rfl)))) : OpV TT enc Try.prog W 23 _ _ _) _ _ _ hf
  have k2 := h2
  have lt2 : ∀ x ∈ p2, x.block < W.heap.size := by obtain ⟨m, hm⟩ := k2; exact DataW.trod_lt m _ _ _ hm
  obtain ⟨cs2, rfl, sz2⟩ := okWide_arr Try.underlying24 (hval 2 24 v2 rfl rfl)
  obtain ⟨x2, ra2, rb2, _, ok2⟩ := h2.elim fun fuel hf => ((OpV.arr3 tok (te := te24) (by kernel_rfl) rfl (by kernel_rfl) (by kernel_rfl) (OpV.int tok (e := te2) (by kernel_rfl) rfl)) : OpV TT enc Try.prog W 24 _ _ _) _ _ _ hf
  clear hA0 hval0 hsz0
  refine (law_calls (w := W) ⟨_, _, Try.func3, by kernel_rfl, w3_h⟩ (BitsRing.pure x0 x1 x2 ok0 ok1 ok2) (args_agg ra0 rb0 (args_agg ra1 rb1 (args_agg ra2 rb2 args_nil)))).mono fun e W' ⟨he, bel⟩ => ?_
  subst he
  exact ⟨_, rfl, _, _, _, [], _, [], hW', trodAll_mk1 (shut_bool Try.underlying4 _), (trodAll_cons_mk (Below.trod laidOut (by kernel_rfl) (of_decide_eq_true (by kernel_rfl)) k0 bel lt0) (trodAll_cons_mk (Below.trod laidOut (by kernel_rfl) (of_decide_eq_true (by kernel_rfl)) k1 bel lt1) (trodAll_cons_mk (Below.trod laidOut (by kernel_rfl) (of_decide_eq_true (by kernel_rfl)) k2 bel lt2) trodAll_mk0))), rfl, bel.frame _, fun h => by cases h⟩
theorem over : Rows.bitsRingRow.holds Try.pinned (OpenSpec.ofChange Rows.bitsRingSpec) :=
  OpenClaim.holds_of_wide 3 Try.f3 rfl rfl rfl rfl rfl rfl rfl ⟨rfl, rfl, rfl, rfl, rfl⟩ rfl rfl rfl rfl rfl (by kernel_rfl) Try.func3 (by kernel_rfl)
    (of_decide_eq_true (by kernel_rfl)) (by unfold Func.isWrapper; first | (rw [if_pos (by decide +kernel)]; kernel_rfl) | (rw [if_neg (by decide +kernel)]; exact ⟨rfl, rfl⟩))
    (fun os started H enc _ => lifted os started H enc)
theorem proved : Rows.BitsRingSaid := over
end Go.Proofs.Ytjcabmhnekcbgaa.bitsRing
namespace Go.Proofs.Ytjcabmhnekcbgaa
theorem bitsRing_holds : Rows.BitsRingSaid := bitsRing.proved
end Go.Proofs.Ytjcabmhnekcbgaa
end
