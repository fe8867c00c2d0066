namespace Go.Proofs.Ytoagfdpgnfinhaa.Plain

end Go.Proofs.Ytoagfdpgnfinhaa.Plain
